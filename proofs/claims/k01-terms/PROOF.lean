import PyProof.Rows.All
import Wide.All
import OpenK.AllK
import Wide.FinOn
import HandS.ForMost
import HandS.Deep
import HandS.Wide
import HandS.IsInst
import HandS.Style
import HandS.TupAny
import HandS.TupLe
import HandS.More
import HandS.Conv
import HandS.DictComp
import HandS.SetKeys
import HandS.NoneIn
import HandS.Codes
import HandS.Iter
import KE.GoesMore
import HandS.Ends
import KE.KDictPairs
import HandS.SortInts
import HandS.Defaults
import HandS.SetFor
import KE.KDictList
import PyProof.NeKinds
import HandS.Zip
import KE.KUnpackStar
import HandS.FStr
import HandS.Text
import HandS.RaiseMore
import PyProof.Rows.IntBool
import KE.IntTextLaws
import KE.KIntText
import PySem.Challenge.RW_fairsearch_k01_what_is_a_term
set_option Elab.async false
set_option linter.all false
set_option maxRecDepth 100000
namespace Ab
open PySem PySem.Spec PyProof.Rows L2

inductive AV where
  | non | bl (b : Bool) | int (i : Int) | str (x : Str) | tup (xs : List AV) | ref (a : Addr) | ty (n : String) | scr (ns : List Int) | raw (xs : List AV)

inductive AO where
  | lst (xs : List AV) | dK (kvs : List (Key × AV)) | ins (C : Addr) (fs : List (Str × AV)) | deck (c : Addr) | hid (a : Addr) | lkd (kvs : List (Key × AV))

abbrev AHp := Addr → Option AO
def updA (m : AHp) (a : Addr) (o : AO) : AHp := fun b => if b = a then some o else m b
theorem updA_same {m : AHp} {a : Addr} {o : AO} : updA m a o a = some o := if_pos rfl
theorem updA_ne {m : AHp} {a b : Addr} {o : AO} (h : b ≠ a) : updA m a o b = m b := if_neg h
theorem updA_twice {m : AHp} {a : Addr} {o u : AO} : updA (updA m a o) a u = updA m a u := by
  funext b
  by_cases h : b = a
  · subst h; rw [updA_same, updA_same]
  · rw [updA_ne h, updA_ne h, updA_ne h]

structure Le0 (K : PySem.W.Frag) (H H' : Hp) : Prop where
  tup : ∀ a ws, SqT K H a ws → SqT K H' a ws
  frz : ∀ a o ws, H a = some (.frz o (.lst ws)) → H' a = some (.frz o (.lst ws))
  frt : ∀ a o ws, H a = some (.frz o (.tup ws)) → H' a = some (.frz o (.tup ws))
theorem Le0.refl {K : PySem.W.Frag} {H : Hp} : Le0 K H H := ⟨fun _ _ h => h, fun _ _ _ h => h, fun _ _ _ h => h⟩
theorem Le0.trans {K : PySem.W.Frag} {H H1 H2 : Hp} (a : Le0 K H H1) (b : Le0 K H1 H2) : Le0 K H H2 := ⟨fun c ws h => b.tup c ws (a.tup c ws h), fun c o ws h => b.frz c o ws (a.frz c o ws h), fun c o ws h => b.frt c o ws (a.frt c o ws h)⟩
structure Le (K : PySem.W.Frag) (H H' : Hp) : Prop extends Le0 K H H' where
  lkd : ∀ a o ws, H a = some (.frz o (.dK ws)) → H' a = some (.frz o (.dK ws))
theorem Le.refl {K : PySem.W.Frag} {H : Hp} : Le K H H := ⟨.refl, fun _ _ _ h => h⟩
theorem Le.trans {K : PySem.W.Frag} {H H1 H2 : Hp} (a : Le K H H1) (b : Le K H1 H2) : Le K H H2 := ⟨a.toLe0.trans b.toLe0, fun c o ws h => b.lkd c o ws (a.lkd c o ws h)⟩
theorem Le.upd {K : PySem.W.Frag} {H : Hp} {p : Addr} {o : HO} (h1 : ∀ ws, H p ≠ some (.tup ws)) (h2 : ∀ b u, H p ≠ some (.frz b u)) : Le K H (L2.upd H p o) := by
  have ne : ∀ {a : Addr} {u : HO}, H a = some u → H p ≠ some u → a ≠ p := fun {a u} e n z => by
    subst z
    exact n e
  refine ⟨⟨fun a ws h => ?_, fun a b ws h => ?_, fun a b ws h => ?_⟩, fun a b ws h => ?_⟩
  · rcases h with (h | ⟨b, h⟩) | h
    · exact .inl (.inl (by rw [upd_ne (ne h (h1 _))]; exact h))
    · exact .inl (.inr ⟨b, by rw [upd_ne (ne h (h2 _ _))]; exact h⟩)
    · exact .inr h
  · rw [upd_ne (ne h (h2 _ _))]
    exact h
  · rw [upd_ne (ne h (h2 _ _))]
    exact h
  · rw [upd_ne (ne h (h2 _ _))]
    exact h
theorem Le.new {K : PySem.W.Frag} {H : Hp} {p : Addr} {o : HO} (h : H p = none) : Le K H (L2.upd H p o) :=
  .upd (fun ws e => by rw [h] at e; cases e) (fun b u e => by rw [h] at e; cases e)
theorem Le.lst {K : PySem.W.Frag} {H : Hp} {p : Addr} {o : HO} {ws : List V} (h : H p = some (.lst ws)) : Le K H (L2.upd H p o) :=
  .upd (fun _ e => by rw [h] at e; cases e) (fun b u e => by rw [h] at e; cases e)
theorem Le.dict {K : PySem.W.Frag} {H : Hp} {p : Addr} {o : HO} {ws : List (Key × V)} (h : H p = some (.dK ws)) : Le K H (L2.upd H p o) :=
  .upd (fun _ e => by rw [h] at e; cases e) (fun b u e => by rw [h] at e; cases e)
theorem Le.inst {K : PySem.W.Frag} {H : Hp} {p C dx : Addr} {fs : List (Str × V)} {o : HO} (h : H p = some (.ins C dx fs)) : Le K H (L2.upd H p o) :=
  .upd (fun _ e => by rw [h] at e; cases e) (fun b u e => by rw [h] at e; cases e)

def ScrAt (K : PySem.W.Frag) (H : Hp) (a : Addr) (ns : List Int) : Prop := SqL K H a (ns.map V.int) ∧ ∀ H', Le0 K H H' → SqL K H' a (ns.map V.int)
theorem ScrAt.mono {K : PySem.W.Frag} {H H' : Hp} {a : Addr} {ns : List Int} (l : Le0 K H H') (h : ScrAt K H a ns) : ScrAt K H' a ns := ⟨h.2 _ l, fun _ l' => h.2 _ (l.trans l')⟩
theorem ScrAt.of {K : PySem.W.Frag} {H : Hp} {a : Addr} {ns : List Int} (o : Only H) (h : SqL K H a (ns.map V.int)) : ScrAt K H a ns := by
  refine ⟨h, fun H' l => ?_⟩
  rcases h with (h | ⟨b, h⟩) | h
  · rcases o a with z | ⟨b, xs, z⟩
    · rw [h] at z; cases z
    · rw [h] at z; cases z
  · exact .inl (.inr ⟨b, l.frz _ _ _ h⟩)
  · exact .inr h

def PlT (K : PySem.W.Frag) (H : Hp) (a : Addr) (ws : List V) : Prop :=
  (∃ o : Obj, o.dict = none ∧ H a = some (.frz o (.tup ws))) ∨ ∃ (o : Obj) (its : Array Value) (n : Nat), K.lookup a = some o ∧ o.cls = .type "tuple" ∧ o.dict = none ∧ o.data = .seq its n ∧ its.size ≤ sizeLine ∧ Vals ws its.toList
theorem PlT.sq {K : PySem.W.Frag} {H : Hp} {a : Addr} {ws : List V} : PlT K H a ws → SqT K H a ws
  | .inl ⟨o, _, h⟩ => .inl (.inr ⟨o, h⟩)
  | .inr ⟨o, its, n, h1, h2, _, h3, h4, h5⟩ => .inr ⟨o, its, n, h1, h2, h3, h4, h5⟩
theorem PlT.mono0 {K : PySem.W.Frag} {H H' : Hp} {a : Addr} {ws : List V} (l : Le0 K H H') : PlT K H a ws → PlT K H' a ws
  | .inl ⟨o, h1, h⟩ => .inl ⟨o, h1, l.frt _ _ _ h⟩
  | .inr h => .inr h
mutual
inductive SimV (K : PySem.W.Frag) (H : Hp) : AV → V → Prop
  | non : SimV K H .non .non
  | bl (b : Bool) : SimV K H (.bl b) (.bl b)
  | int (i : Int) : SimV K H (.int i) (.int i)
  | str (x : Str) : SimV K H (.str x) (.str x)
  | tup {a : Addr} {xs : List AV} {ws : List V} : PlT K H a ws → SimVs K H xs ws → SimV K H (.tup xs) (.ref a)
  | raw {a : Addr} {xs : List AV} {ws : List V} : SqT K H a ws → SimVs K H xs ws → SimV K H (.raw xs) (.ref a)
  | ref (a : Addr) : SimV K H (.ref a) (.ref a)
  | ty (n : String) : SimV K H (.ty n) (.ty n)
  | scr {a : Addr} {ns : List Int} : ScrAt K H a ns → SimV K H (.scr ns) (.ref a)
inductive SimVs (K : PySem.W.Frag) (H : Hp) : List AV → List V → Prop
  | nil : SimVs K H [] []
  | cons {x : AV} {xs : List AV} {v : V} {vs : List V} : SimV K H x v → SimVs K H xs vs → SimVs K H (x :: xs) (v :: vs)
end
section
variable {K : PySem.W.Frag} {H H' : Hp}
mutual
theorem SimV.mono0 (l : Le0 K H H') : ∀ {x : AV} {v : V}, SimV K H x v → SimV K H' x v
  | _, _, .non => .non
  | _, _, .bl b => .bl b
  | _, _, .int i => .int i
  | _, _, .str x => .str x
  | _, _, .tup h hs => .tup (h.mono0 l) (SimVs.mono0 l hs)
  | _, _, .raw h hs => .raw (l.tup _ _ h) (SimVs.mono0 l hs)
  | _, _, .ref a => .ref a
  | _, _, .ty n => .ty n
  | _, _, .scr h => .scr (h.mono l)
theorem SimVs.mono0 (l : Le0 K H H') : ∀ {xs : List AV} {vs : List V}, SimVs K H xs vs → SimVs K H' xs vs
  | _, _, .nil => .nil
  | _, _, .cons h hs => .cons (SimV.mono0 l h) (SimVs.mono0 l hs)
end
theorem SimV.mono (l : Le K H H') {x : AV} {v : V} (h : SimV K H x v) : SimV K H' x v := h.mono0 l.toLe0
theorem SimVs.mono (l : Le K H H') {xs : List AV} {vs : List V} (h : SimVs K H xs vs) : SimVs K H' xs vs := h.mono0 l.toLe0
theorem SimVs.length : ∀ {xs : List AV} {vs : List V}, SimVs K H xs vs → xs.length = vs.length
  | _, _, .nil => rfl
  | _, _, .cons _ hs => congrArg (· + 1) (SimVs.length hs)
theorem SimVs.get : ∀ {xs : List AV} {vs : List V} {i : Nat} {x : AV}, SimVs K H xs vs → xs[i]? = some x → ∃ v, vs[i]? = some v ∧ SimV K H x v
  | _, _, _, _, .nil, e => by simp at e
  | _, _, 0, _, .cons h _, e => by simp at e; subst e; exact ⟨_, rfl, h⟩
  | _, _, i + 1, x, .cons _ hs, e => by
    obtain ⟨v, h1, h2⟩ := SimVs.get (i := i) (x := x) hs (by simpa using e)
    exact ⟨v, by simpa using h1, h2⟩
theorem SimVs.append : ∀ {xs ys : List AV} {vs ws : List V}, SimVs K H xs vs → SimVs K H ys ws → SimVs K H (xs ++ ys) (vs ++ ws)
  | _, _, _, _, .nil, h => h
  | _, _, _, _, .cons h hs, h2 => .cons h (SimVs.append hs h2)
theorem SimVs.take : ∀ {xs : List AV} {vs : List V} (n : Nat), SimVs K H xs vs → SimVs K H (xs.take n) (vs.take n)
  | _, _, 0, _ => .nil
  | _, _, _ + 1, .nil => .nil
  | _, _, n + 1, .cons h hs => .cons h (SimVs.take n hs)
theorem SimVs.drop : ∀ {xs : List AV} {vs : List V} (n : Nat), SimVs K H xs vs → SimVs K H (xs.drop n) (vs.drop n)
  | _, _, 0, h => h
  | _, _, _ + 1, .nil => .nil
  | _, _, n + 1, .cons _ hs => SimVs.drop n hs
theorem SimVs.set {x : AV} {v : V} (h : SimV K H x v) : ∀ {xs : List AV} {vs : List V} (i : Nat), SimVs K H xs vs → SimVs K H (xs.set i x) (vs.set i v)
  | _, _, _, .nil => .nil
  | _, _, 0, .cons _ hs => .cons h hs
  | _, _, i + 1, .cons h2 hs => .cons h2 (SimVs.set h i hs)
theorem SimVs.erase : ∀ {xs : List AV} {vs : List V} (i : Nat), SimVs K H xs vs → SimVs K H (xs.eraseIdx i) (vs.eraseIdx i)
  | _, _, _, .nil => .nil
  | _, _, 0, .cons _ hs => hs
  | _, _, i + 1, .cons h hs => .cons h (SimVs.erase i hs)
theorem SimVs.reverse : ∀ {xs : List AV} {vs : List V}, SimVs K H xs vs → SimVs K H xs.reverse vs.reverse
  | _, _, .nil => .nil
  | _, _, .cons h hs => by
    rw [List.reverse_cons, List.reverse_cons]
    exact (SimVs.reverse hs).append (.cons h .nil)
theorem SimVs.ints : ∀ {ns : List Int} {vs : List V}, SimVs K H (ns.map AV.int) vs → vs = ns.map V.int
  | [], _, h => by cases h; rfl
  | n :: ns, _, h => by
    cases h with
    | cons h1 h2 => cases h1; rw [SimVs.ints h2]; rfl
theorem SimVs.of_ints : ∀ {ns : List Int}, SimVs K H (ns.map AV.int) (ns.map V.int)
  | [] => .nil
  | n :: _ => .cons (.int n) SimVs.of_ints
theorem SimVs.strs : ∀ {ns : List Str} {vs : List V}, SimVs K H (ns.map AV.str) vs → vs = ns.map V.str
  | [], _, h => by cases h; rfl
  | n :: ns, _, h => by
    cases h with
    | cons h1 h2 => cases h1; rw [SimVs.strs h2]; rfl
theorem SimVs.bls : ∀ {ns : List Bool} {vs : List V}, SimVs K H (ns.map AV.bl) vs → vs = ns.map V.bl
  | [], _, h => by cases h; rfl
  | n :: ns, _, h => by
    cases h with
    | cons h1 h2 => cases h1; rw [SimVs.bls h2]; rfl
end

abbrev SimK (K : PySem.W.Frag) (H : Hp) : List (Key × AV) → List (Key × V) → Prop := Paired fun (p : Key × AV) (q : Key × V) => p.1 = q.1 ∧ SimV K H p.2 q.2
abbrev SimF (K : PySem.W.Frag) (H : Hp) : List (Str × AV) → List (Str × V) → Prop := Paired fun (p : Str × AV) (q : Str × V) => p.1 = q.1 ∧ SimV K H p.2 q.2
theorem SimK.mono0 {α : Type} {K : PySem.W.Frag} {H H' : Hp} (l : Le0 K H H') {xs : List (α × AV)} {vs : List (α × V)} (h : Paired (fun (p : α × AV) (q : α × V) => p.1 = q.1 ∧ SimV K H p.2 q.2) xs vs) :
    Paired (fun (p : α × AV) (q : α × V) => p.1 = q.1 ∧ SimV K H' p.2 q.2) xs vs := Paired.mapP h fun _ _ z => ⟨z.1, z.2.mono0 l⟩
theorem SimK.mono {α : Type} {K : PySem.W.Frag} {H H' : Hp} (l : Le K H H') {xs : List (α × AV)} {vs : List (α × V)} (h : Paired (fun (p : α × AV) (q : α × V) => p.1 = q.1 ∧ SimV K H p.2 q.2) xs vs) :
    Paired (fun (p : α × AV) (q : α × V) => p.1 = q.1 ∧ SimV K H' p.2 q.2) xs vs := SimK.mono0 l.toLe0 h

structure DeckAt (H : Hp) (d c : Addr) : Prop where
  ex : ∃ (ns : List Int) (z n : Int), H d = some (.lst [.ref c, .int z, .int n]) ∧ H c = some (.lst (ns.map V.int)) ∧ ns.length ≤ 63 ∧ 0 ≤ z ∧ z < 2 ^ 32 ∧ 0 ≤ n

def SimO (K : PySem.W.Frag) (H : Hp) (m : AHp) (a : Addr) : AO → Prop
  | .lst xs => ∃ ws, H a = some (.lst ws) ∧ SimVs K H xs ws
  | .dK kvs => ∃ ws, H a = some (.dK ws) ∧ SimK K H kvs ws
  | .ins C fs => ∃ dx ws, H a = some (.ins C dx ws) ∧ SimF K H fs ws
  | .deck c => m c = some (.hid a) ∧ DeckAt H a c
  | .hid _ => ∃ o, H a = some o
  | .lkd kvs => ∃ od ws, H a = some (.frz od (.dK ws)) ∧ SimK K H kvs ws
def SimH (K : PySem.W.Frag) (H : Hp) (m : AHp) : Prop := ∀ a o, m a = some o → SimO K H m a o
abbrev St := L2.St
abbrev ASt := List (Option AV)
structure SimS (K : PySem.W.Frag) (H : Hp) (t : ASt) (σ : L2.St) : Prop where
  len : t.length = σ.length
  get : ∀ (i : Nat) (x : AV), t[i]? = some (some x) → ∃ v, σ[i]? = some (some v) ∧ SimV K H x v
section
variable {K : PySem.W.Frag} {H H' : Hp} {m m' : AHp} {t : ASt} {σ : L2.St} {a p : Addr}
theorem SimS.mono0 (l : Le0 K H H') (h : SimS K H t σ) : SimS K H' t σ := ⟨h.len, fun i x e => let ⟨v, h1, h2⟩ := h.get i x e; ⟨v, h1, h2.mono0 l⟩⟩
theorem SimS.mono (l : Le K H H') (h : SimS K H t σ) : SimS K H' t σ := h.mono0 l.toLe0
theorem SimH.there (h : SimH K H m) {o : AO} (e : m a = some o) : ∃ u, H a = some u := by
  have q := h a o e
  cases o with
  | lst xs => obtain ⟨ws, q, _⟩ := q; exact ⟨_, q⟩
  | dK kvs => obtain ⟨ws, q, _⟩ := q; exact ⟨_, q⟩
  | ins C fs => obtain ⟨dx, ws, q, _⟩ := q; exact ⟨_, q⟩
  | deck c => obtain ⟨_, ⟨ns, z, n, q, _⟩⟩ := q; exact ⟨_, q⟩
  | hid b => exact q
  | lkd kvs => obtain ⟨od, ws, q, _⟩ := q; exact ⟨_, q⟩
theorem SimH.free (h : SimH K H m) (e : H a = none) : m a = none := by
  cases q : m a with
  | none => rfl
  | some o =>
    obtain ⟨u, z⟩ := h.there q
    rw [e] at z; cases z
theorem SimH.put0 (h : SimH K H m) (l : Le0 K H H') (k : ∀ b u, b ≠ a → H b = some u → H' b = some u) (o : AO) (nh : ∀ b, m a ≠ some (.hid b)) (new : SimO K H' (updA m a o) a o) : SimH K H' (updA m a o) := by
  intro b u e
  by_cases hb : b = a
  · subst hb
    rw [updA_same] at e
    cases e
    exact new
  · rw [updA_ne hb] at e
    have q := h b u e
    cases u with
    | lst xs => obtain ⟨ws, q1, q2⟩ := q; exact ⟨ws, k _ _ hb q1, q2.mono0 l⟩
    | dK kvs => obtain ⟨ws, q1, q2⟩ := q; exact ⟨ws, k _ _ hb q1, SimK.mono0 l q2⟩
    | ins C fs => obtain ⟨dx, ws, q1, q2⟩ := q; exact ⟨dx, ws, k _ _ hb q1, SimK.mono0 l q2⟩
    | deck c =>
      obtain ⟨q0, ⟨ns, z, n, q1, q2, q3⟩⟩ := q
      have hc : c ≠ a := fun z => nh b (z ▸ q0)
      exact ⟨by rw [updA_ne hc]; exact q0, ⟨ns, z, n, k _ _ hb q1, k _ _ hc q2, q3⟩⟩
    | hid d => obtain ⟨u, q⟩ := q; exact ⟨u, k _ _ hb q⟩
    | lkd kvs => obtain ⟨od, ws, q1, q2⟩ := q; exact ⟨od, ws, k _ _ hb q1, SimK.mono0 l q2⟩
theorem SimH.put (h : SimH K H m) (l : Le K H H') (k : ∀ b u, b ≠ a → H b = some u → H' b = some u) (o : AO) (nh : ∀ b, m a ≠ some (.hid b)) (new : SimO K H' (updA m a o) a o) : SimH K H' (updA m a o) := h.put0 l.toLe0 k o nh new
theorem SimH.new (h : SimH K H m) (hp : H p = none) {u : HO} {o : AO} (new : SimO K (L2.upd H p u) (updA m p o) p o) : SimH K (L2.upd H p u) (updA m p o) :=
  h.put (.new hp) (fun b v hb e => by rw [upd_ne hb]; exact e) o (fun b e => by rw [h.free hp] at e; cases e) new
theorem SimH.more (h : SimH K H m) (hp : H p = none) {u : HO} : SimH K (L2.upd H p u) m := by
  have l : Le K H (L2.upd H p u) := .new hp
  have k : ∀ b v, H b = some v → L2.upd H p u b = some v := fun b v e => by rw [upd_ne (ne_of_none e hp)]; exact e
  intro b o e
  have q := h b o e
  cases o with
  | lst xs => obtain ⟨ws, q1, q2⟩ := q; exact ⟨ws, k _ _ q1, q2.mono l⟩
  | dK kvs => obtain ⟨ws, q1, q2⟩ := q; exact ⟨ws, k _ _ q1, SimK.mono l q2⟩
  | ins C fs => obtain ⟨dx, ws, q1, q2⟩ := q; exact ⟨dx, ws, k _ _ q1, SimK.mono l q2⟩
  | deck c => obtain ⟨q0, ⟨ns, z, n, q1, q2, q3⟩⟩ := q; exact ⟨q0, ⟨ns, z, n, k _ _ q1, k _ _ q2, q3⟩⟩
  | hid d => obtain ⟨v, q⟩ := q; exact ⟨v, k _ _ q⟩
  | lkd kvs => obtain ⟨od, ws, q1, q2⟩ := q; exact ⟨od, ws, k _ _ q1, SimK.mono l q2⟩
def Sub (m m' : AHp) : Prop := ∀ a o, m a = some o → m' a = some o
def Own (m : AHp) : Prop := ∀ a c, m a = some (.deck c) → m c = some (.hid a)
theorem SimH.own (h : SimH K H m) : Own m := fun a c e => (h a _ e).1
theorem SimH.sub (h : SimH K H m') (s : Sub m m') (own : Own m) : SimH K H m := by
  intro b o e
  have q := h b o (s b o e)
  cases o with
  | deck c => exact ⟨own b c e, q.2⟩
  | _ => exact q
end
end Ab

namespace Ab
open PySem PySem.Spec PyProof.Rows L2

abbrev AK := AV → AHp → Prop
abbrev ATE := ASt → AHp → AK → Prop
abbrev ATT := ASt → AHp → (Bool → AHp → Prop) → Prop
abbrev ATA := ASt → AHp → (List AV → AHp → Prop) → Prop
structure AEnds where
  nx : ASt → AHp → Prop
  rt : AK
  bk : ASt → AHp → Prop := fun _ _ => False
  ct : ASt → AHp → Prop := fun _ _ => False
abbrev ATS := AEnds → ASt → AHp → Prop

theorem peI {X : Cx} {e : Expr} {t u : TE} (h : PE X e t) (i : ∀ σ H Q, u σ H Q → t σ H Q) : PE X e u := ⟨fun pins s σ H Q I q => h.run pins s σ H Q I (i σ H Q q)⟩
theorem ptI {X : Cx} {e : Expr} {t u : TT} (h : PT X e t) (i : ∀ σ H Q, u σ H Q → t σ H Q) : PT X e u := ⟨fun pins s σ H Q I q => h.run pins s σ H Q I (i σ H Q q)⟩
theorem pwI {X : Cx} {e : Expr} {t u : TT} (h : PW X e t) (i : ∀ σ H Q, u σ H Q → t σ H Q) : PW X e u := ⟨fun wh pins s σ H Q I q => h.run wh pins s σ H Q I (i σ H Q q)⟩
theorem paI {X : Cx} {e : List Expr} {t u : TA} (h : PA X e t) (i : ∀ σ H Q, u σ H Q → t σ H Q) : PA X e u := ⟨fun pos pins s σ H Q I q => h.run pos pins s σ H Q I (i σ H Q q)⟩
theorem psI {X : Cx} {e : Stmt} {t u : TS} (h : PS X e t) (i : ∀ D σ H, u D σ H → t D σ H) : PS X e u := ⟨fun pins s σ H D I q => h.run pins s σ H D I (i D σ H q)⟩
theorem pssI {X : Cx} {e : List Stmt} {t u : TS} (h : PSs X e t) (i : ∀ D σ H, u D σ H → t D σ H) : PSs X e u := ⟨fun pins s σ H D I q => h.run pins s σ H D I (i D σ H q)⟩

section
variable (K : PySem.W.Frag) (H : Hp)
def KE (q : AK) (Q : VK) : Prop := ∀ x m v H', Le K H H' → SimH K H' m → SimV K H' x v → q x m → Q v H'
def KT (q : Bool → AHp → Prop) (Q : Bool → Hp → Prop) : Prop := ∀ b m H', Le K H H' → SimH K H' m → q b m → Q b H'
def KA (q : List AV → AHp → Prop) (Q : List V → Hp → Prop) : Prop := ∀ xs m vs H', Le K H H' → SimH K H' m → SimVs K H' xs vs → q xs m → Q vs H'
def KS (q : ASt → AHp → Prop) (Q : L2.St → Hp → Prop) : Prop := ∀ t m σ H', Le K H H' → SimS K H' t σ → SimH K H' m → q t m → Q σ H'
structure KD (d : AEnds) (D : Ends) : Prop where
  nx : KS K H d.nx D.nx
  rt : KE K H d.rt D.rt
  bk : KS K H d.bk D.bk
  ct : KS K H d.ct D.ct
end
section
variable {K : PySem.W.Frag} {H H1 : Hp}
theorem KE.mono {q : AK} {Q : VK} (l : Le K H H1) (h : KE K H q Q) : KE K H1 q Q := fun x m v H' l' => h x m v H' (l.trans l')
theorem KT.mono {q : Bool → AHp → Prop} {Q : Bool → Hp → Prop} (l : Le K H H1) (h : KT K H q Q) : KT K H1 q Q := fun x m H' l' => h x m H' (l.trans l')
theorem KA.mono {q : List AV → AHp → Prop} {Q : List V → Hp → Prop} (l : Le K H H1) (h : KA K H q Q) : KA K H1 q Q := fun x m v H' l' => h x m v H' (l.trans l')
theorem KS.mono {q : ASt → AHp → Prop} {Q : L2.St → Hp → Prop} (l : Le K H H1) (h : KS K H q Q) : KS K H1 q Q := fun x m v H' l' => h x m v H' (l.trans l')
theorem KD.mono {d : AEnds} {D : Ends} (l : Le K H H1) (h : KD K H d D) : KD K H1 d D := ⟨h.nx.mono l, h.rt.mono l, h.bk.mono l, h.ct.mono l⟩
end

def clE (K : PySem.W.Frag) (t : ATE) : TE := fun σ H Q => ∃ a m q, SimS K H a σ ∧ SimH K H m ∧ t a m q ∧ KE K H q Q
def clT (K : PySem.W.Frag) (t : ATT) : TT := fun σ H Q => ∃ a m q, SimS K H a σ ∧ SimH K H m ∧ t a m q ∧ KT K H q Q
def clA (K : PySem.W.Frag) (t : ATA) : TA := fun σ H Q => ∃ a m q, SimS K H a σ ∧ SimH K H m ∧ t a m q ∧ KA K H q Q
def clS (K : PySem.W.Frag) (t : ATS) : TS := fun D σ H => ∃ a m d, SimS K H a σ ∧ SimH K H m ∧ t d a m ∧ KD K H d D
abbrev AE (X : Cx) (e : Expr) (t : ATE) : Prop := PE X e (clE X.K t)
abbrev AT (X : Cx) (e : Expr) (t : ATT) : Prop := PT X e (clT X.K t)
abbrev AW (X : Cx) (e : Expr) (t : ATT) : Prop := PW X e (clT X.K t)
abbrev AA (X : Cx) (e : List Expr) (t : ATA) : Prop := PA X e (clA X.K t)
abbrev AS (X : Cx) (e : Stmt) (t : ATS) : Prop := PS X e (clS X.K t)
abbrev ASs (X : Cx) (e : List Stmt) (t : ATS) : Prop := PSs X e (clS X.K t)

def slot : ASt → Nat → Option AV
  | [], _ => none
  | x :: _, 0 => x
  | _ :: r, n + 1 => slot r n
def put : ASt → Nat → AV → ASt
  | [], _, _ => []
  | _ :: r, 0, v => some v :: r
  | x :: r, n + 1, v => x :: put r n v
theorem slot_get : ∀ {t : ASt} {i : Nat} {v : AV}, slot t i = some v → t[i]? = some (some v)
  | [], _, _, h => by cases h
  | x :: _, 0, v, h => congrArg some (show x = some v from h)
  | _ :: r, n + 1, v, h => by
    have := slot_get (t := r) (i := n) (v := v) h
    simpa using this
theorem put_eq : ∀ (t : ASt) (i : Nat) (v : AV), put t i v = t.set i (some v)
  | [], _, _ => rfl
  | _ :: r, 0, v => rfl
  | x :: r, n + 1, v => by
    show x :: put r n v = x :: r.set n (some v)
    rw [put_eq r n v]
theorem SimS.put {K : PySem.W.Frag} {H : Hp} {t : ASt} {σ : L2.St} {x : AV} {v : V} (h : SimS K H t σ) (r : SimV K H x v) (i : Nat) : SimS K H (Ab.put t i x) (σ.set i (some v)) := by
  rw [put_eq]
  refine ⟨by simpa using h.len, fun j y e => ?_⟩
  by_cases hj : i = j
  · subst hj
    have hl : i < t.length := by
      have := (List.getElem?_eq_some_iff.mp e).1
      simpa using this
    rw [List.getElem?_set_self hl] at e
    cases e
    exact ⟨v, List.getElem?_set_self (by rw [← h.len]; exact hl), r⟩
  · rw [List.getElem?_set_ne hj] at e
    obtain ⟨u, h1, h2⟩ := h.get j y e
    exact ⟨u, by rw [List.getElem?_set_ne hj]; exact h1, h2⟩

def aVar (i : Nat) : ATE := fun a m q => match slot a i with
  | some v => q v m
  | none => False
def aC (x : AV) : ATE := fun _ m q => q x m
section
variable {X : Cx} {pos : Pos}
theorem ae_of {e : Expr} {t : TE} {u : ATE} (h : PE X e t) (i : ∀ a m q σ H Q, SimS X.K H a σ → SimH X.K H m → u a m q → KE X.K H q Q → t σ H Q) : AE X e u :=
  peI h fun σ H Q ⟨a, m, q, h1, h2, h3, h4⟩ => i a m q σ H Q h1 h2 h3 h4
theorem ae_var {i : Nat} {x : Str} (h : PE X (.Name x pos) (tVar i)) : AE X (.Name x pos) (aVar i) := ae_of h fun a m q σ H Q h1 h2 h3 h4 => by
  unfold aVar at h3
  cases e : slot a i with
  | none => rw [e] at h3; exact h3.elim
  | some v =>
    rw [e] at h3
    obtain ⟨w, g1, g2⟩ := h1.get i v (slot_get e)
    exact ⟨w, g1, h4 v m w H .refl h2 g2 h3⟩
theorem ae_c {e : Expr} {v : V} {x : AV} (h : PE X e (tC v)) (r : ∀ H, SimV X.K H x v) : AE X e (aC x) := ae_of h fun a m q σ H Q h1 h2 h3 h4 => h4 x m v H .refl h2 (r H) h3
theorem ae_int {i : Int} {j} : AE X (.Constant (.int i) j pos) (aC (.int i)) := ae_c pe_int fun _ => .int i
theorem ae_str {x : Str} {j} : AE X (.Constant (.str x) j pos) (aC (.str x)) := ae_c pe_str fun _ => .str x
theorem ae_bl {x : Bool} {j} : AE X (.Constant (.bool x) j pos) (aC (.bl x)) := ae_c pe_bl fun _ => .bl x
theorem ae_non {j} : AE X (.Constant .none j pos) (aC .non) := ae_c pe_non fun _ => .non

abbrev AR2 := AV → AV → AHp → AK → Prop
def cl2 (K : PySem.W.Frag) (r : AR2) : R2 := fun v w H Q => ∃ x y m q, SimV K H x v ∧ SimV K H y w ∧ SimH K H m ∧ r x y m q ∧ KE K H q Q
def cl1 (K : PySem.W.Frag) (r : AV → AHp → AK → Prop) : V → Hp → VK → Prop := fun v H Q => ∃ x m q, SimV K H x v ∧ SimH K H m ∧ r x m q ∧ KE K H q Q
def clL (K : PySem.W.Frag) (r : List AV → AHp → AK → Prop) : List V → Hp → VK → Prop := fun vs H Q => ∃ xs m q, SimVs K H xs vs ∧ SimH K H m ∧ r xs m q ∧ KE K H q Q
def clM (K : PySem.W.Frag) (r : AV → List AV → AHp → AK → Prop) : V → List V → Hp → VK → Prop := fun v vs H Q => ∃ x xs m q, SimV K H x v ∧ SimVs K H xs vs ∧ SimH K H m ∧ r x xs m q ∧ KE K H q Q
variable {a b c : Expr} {ta tb tc : ATE} {es : List Expr} {tes : ATA}
def aOp (r : AR2) (ta tb : ATE) : ATE := fun t m q => ta t m fun x m1 => tb t m1 fun y m2 => r x y m2 q
theorem bin2 {K : PySem.W.Frag} {r : AR2} {σ : L2.St} {H : Hp} {Q : VK} : clE K (aOp r ta tb) σ H Q → tOp (cl2 K r) (clE K ta) (clE K tb) σ H Q := fun ⟨t, m, q, h1, h2, h3, h4⟩ =>
  ⟨t, m, _, h1, h2, h3, fun x m1 v H1 l1 g1 r1 q1 => ⟨t, m1, _, h1.mono l1, g1, q1, fun y m2 w H2 l2 g2 r2 q2 => ⟨x, y, m2, q, r1.mono l2, r2, g2, q2, h4.mono (l1.trans l2)⟩⟩⟩
theorem ae_op {op : Operator} {r : AR2} (ho : OpR X (binaryOp op) (cl2 X.K r)) (ha : AE X a ta) (hb : AE X b tb) : AE X (.BinOp a op b pos) (aOp r ta tb) := peI (pe_op ho ha hb) fun _ _ _ h => bin2 h
theorem ae_cmp {op : CmpOp} {r : AR2} (ho : OpR X (compareOp op) (cl2 X.K r)) (ha : AE X a ta) (hb : AE X b tb) (hm : behindInMarks op b = false) : AE X (.Compare a [op] [b] pos) (aOp r ta tb) := peI (pe_cmpR ho ha hb hm) fun _ _ _ h => bin2 h
def aUn (r : AV → AHp → AK → Prop) (ta : ATE) : ATE := fun t m q => ta t m fun x m1 => r x m1 q
theorem ae_un {op : UnaryOp} {r : AV → AHp → AK → Prop} (ho : UnR X (unaryOp op) (cl1 X.K r)) (ha : AE X a ta) : AE X (.UnaryOp op a pos) (aUn r ta) := peI (pe_un ho ha) fun _ _ _ ⟨t, m, q, h1, h2, h3, h4⟩ =>
  ⟨t, m, _, h1, h2, h3, fun x m1 v H1 l1 g1 r1 q1 => ⟨x, m1, q, r1, g1, q1, h4.mono l1⟩⟩
def aTest (t : ATE) : ATT := fun a m q => t a m fun x m1 => match x with
  | .bl b => q b m1
  | _ => False
theorem test_of {K : PySem.W.Frag} {t : ATE} {u : TE} {σ : L2.St} {H : Hp} {Q : Bool → Hp → Prop} (h : clT K (aTest t) σ H Q) (i : ∀ Q', clE K t σ H Q' → u σ H Q') : u σ H fun x H' => ∃ k, x = .bl k ∧ Q k H' := by
  obtain ⟨a, m, q, h1, h2, h3, h4⟩ := h
  refine i _ ⟨a, m, _, h1, h2, h3, fun x m1 v H1 l1 g1 r1 q1 => ?_⟩
  cases x with
  | bl b => cases r1; exact ⟨b, rfl, h4 b m1 H1 l1 g1 q1⟩
  | _ => exact q1.elim
theorem at_cmp {op : CmpOp} {r : AR2} (ho : OpR X (compareOp op) (cl2 X.K r)) (ha : AE X a ta) (hb : AE X b tb) (hm : behindInMarks op b = false) : AT X (.Compare a [op] [b] pos) (aTest (aOp r ta tb)) :=
  ptI (pt_cmpR ho ha hb hm) fun _ _ _ h => test_of h fun _ z => bin2 z
theorem at_val {t : ATE} (h : AE X a t) (he : ∀ whole, isTrue a X.env whole = (do let v ← whole; standAt a.pos; holding [v] (truthy v)) := by intro _; rfl) : AT X a (aTest t) :=
  ptI (pt_val h he) fun _ _ _ q => test_of q fun _ z => z
def aChain (r r' : AR2) (ta tb tc : ATE) : ATE := fun t m q => ta t m fun x m1 => tb t m1 fun y m2 => r x y m2 fun z m3 => match z with
  | .bl true => tc t m3 fun w m4 => r' y w m4 q
  | .bl false => q (.bl false) m3
  | _ => False
theorem chain_of {K : PySem.W.Frag} {r r' : AR2} {σ : L2.St} {H : Hp} {Q : VK} : clE K (aChain r r' ta tb tc) σ H Q → tChain (cl2 K r) (cl2 K r') (clE K ta) (clE K tb) (clE K tc) σ H Q := fun ⟨t, m, q, h1, h2, h3, h4⟩ => by
  refine ⟨t, m, _, h1, h2, h3, fun x m1 v H1 l1 g1 r1 q1 => ⟨t, m1, _, h1.mono l1, g1, q1, fun y m2 w H2 l2 g2 r2 q2 => ⟨x, y, m2, _, r1.mono l2, r2, g2, q2, fun z m3 u H3 l3 g3 r3 q3 => ?_⟩⟩⟩
  cases z with
  | bl k =>
    cases r3
    refine ⟨k, rfl, ?_⟩
    cases k with
    | true =>
      rw [if_pos rfl]
      exact ⟨t, m3, _, h1.mono (l1.trans (l2.trans l3)), g3, q3, fun w' m4 v4 H4 l4 g4 r4 q4 => ⟨y, w', m4, q, r2.mono (l3.trans l4), r4, g4, q4, h4.mono (l1.trans (l2.trans (l3.trans l4)))⟩⟩
    | false =>
      rw [if_neg Bool.false_ne_true]
      exact h4 _ m3 _ H3 (l1.trans (l2.trans l3)) g3 (.bl false) q3
  | _ => exact q3.elim
theorem ae_chain {op op' : CmpOp} {r r' : AR2} (ho : OpR X (compareOp op) (cl2 X.K r)) (ho' : OpR X (compareOp op') (cl2 X.K r')) (ha : AE X a ta) (hb : AE X b tb) (hc : AE X c tc)
    (hm : lastMarks [op, op'] [b, c] = false := by with_unfolding_all rfl) : AE X (.Compare a [op, op'] [b, c] pos) (aChain r r' ta tb tc) := peI (pe_chain ho ho' ha hb hc hm) fun _ _ _ h => chain_of h
theorem at_chain {op op' : CmpOp} {r r' : AR2} (ho : OpR X (compareOp op) (cl2 X.K r)) (ho' : OpR X (compareOp op') (cl2 X.K r')) (ha : AE X a ta) (hb : AE X b tb) (hc : AE X c tc)
    (hm : lastMarks [op, op'] [b, c] = false := by with_unfolding_all rfl) : AT X (.Compare a [op, op'] [b, c] pos) (aTest (aChain r r' ta tb tc)) := ptI (pt_chain ho ho' ha hb hc hm) fun _ _ _ h => test_of h fun _ z => chain_of z

variable {tA tB : ATT} {rest : List Expr}
def aAnd (t u : ATT) : ATT := fun a m q => t a m fun c m1 => if c = true then u a m1 q else q false m1
def aOr (t u : ATT) : ATT := fun a m q => t a m fun c m1 => if c = true then q true m1 else u a m1 q
def aNot (t : ATT) : ATT := fun a m q => t a m fun c m1 => q (!c) m1
theorem two_of {K : PySem.W.Frag} {σ : L2.St} {H : Hp} {Q : Bool → Hp → Prop} : clT K (aAnd tA tB) σ H Q → tAnd (clT K tA) (clT K tB) σ H Q := fun ⟨t, m, q, h1, h2, h3, h4⟩ => by
  refine ⟨t, m, _, h1, h2, h3, fun c m1 H1 l1 g1 q1 => ?_⟩
  cases c with
  | true => exact ⟨t, m1, q, h1.mono l1, g1, q1, h4.mono l1⟩
  | false => exact h4 _ _ _ l1 g1 q1
theorem one_of {K : PySem.W.Frag} {σ : L2.St} {H : Hp} {Q : Bool → Hp → Prop} : clT K (aOr tA tB) σ H Q → tOr (clT K tA) (clT K tB) σ H Q := fun ⟨t, m, q, h1, h2, h3, h4⟩ => by
  refine ⟨t, m, _, h1, h2, h3, fun c m1 H1 l1 g1 q1 => ?_⟩
  cases c with
  | true => exact h4 _ _ _ l1 g1 q1
  | false => exact ⟨t, m1, q, h1.mono l1, g1, q1, h4.mono l1⟩
theorem aw_and1 (ha : AT X a tA) : AW X (.BoolOp .And [a] pos) tA := pw_and1 ha
theorem aw_or1 (ha : AT X a tA) : AW X (.BoolOp .Or [a] pos) tA := pw_or1 ha
theorem aw_and (ha : AT X a tA) (hb : AW X (.BoolOp .And (b :: rest) pos) tB) : AW X (.BoolOp .And (a :: b :: rest) pos) (aAnd tA tB) := pwI (pw_and ha hb) fun _ _ _ h => two_of h
theorem aw_or (ha : AT X a tA) (hb : AW X (.BoolOp .Or (b :: rest) pos) tB) : AW X (.BoolOp .Or (a :: b :: rest) pos) (aOr tA tB) := pwI (pw_or ha hb) fun _ _ _ h => one_of h
theorem at_w (h : AW X a tA) : AT X a tA := h.pt
theorem at_not (ha : AT X a tA) : AT X (.UnaryOp .Not a pos) (aNot tA) := ptI (pt_not ha) fun _ _ _ ⟨t, m, q, h1, h2, h3, h4⟩ => ⟨t, m, _, h1, h2, h3, fun c m1 H1 l1 g1 q1 => h4 _ _ _ l1 g1 q1⟩
def aAndV (t u : ATE) : ATE := fun a m q => t a m fun x m1 => match x with
  | .bl true => u a m1 q
  | .bl false => q (.bl false) m1
  | _ => False
def aOrV (t u : ATE) : ATE := fun a m q => t a m fun x m1 => match x with
  | .bl true => q (.bl true) m1
  | .bl false => u a m1 q
  | _ => False
def aNotV (t : ATE) : ATE := fun a m q => t a m fun x m1 => match x with
  | .bl b => q (.bl (!b)) m1
  | _ => False
theorem ae_one {op} (h : AE X a ta) : AE X (.BoolOp op [a] pos) ta := pe_one h
theorem ae_and (ha : AE X a ta) (hb : AE X (.BoolOp .And (b :: rest) pos) tb) : AE X (.BoolOp .And (a :: b :: rest) pos) (aAndV ta tb) := peI (pe_and ha hb) fun _ _ _ ⟨t, m, q, h1, h2, h3, h4⟩ => by
  refine ⟨t, m, _, h1, h2, h3, fun x m1 v H1 l1 g1 r1 q1 => ?_⟩
  cases x with
  | bl c =>
    cases r1
    refine ⟨c, rfl, ?_⟩
    cases c with
    | true => exact ⟨t, m1, q, h1.mono l1, g1, q1, h4.mono l1⟩
    | false => exact h4 _ _ _ _ l1 g1 (.bl false) q1
  | _ => exact q1.elim
theorem ae_or (ha : AE X a ta) (hb : AE X (.BoolOp .Or (b :: rest) pos) tb) : AE X (.BoolOp .Or (a :: b :: rest) pos) (aOrV ta tb) := peI (pe_or ha hb) fun _ _ _ ⟨t, m, q, h1, h2, h3, h4⟩ => by
  refine ⟨t, m, _, h1, h2, h3, fun x m1 v H1 l1 g1 r1 q1 => ?_⟩
  cases x with
  | bl c =>
    cases r1
    refine ⟨c, rfl, ?_⟩
    cases c with
    | false => exact ⟨t, m1, q, h1.mono l1, g1, q1, h4.mono l1⟩
    | true => exact h4 _ _ _ _ l1 g1 (.bl true) q1
  | _ => exact q1.elim
theorem ae_not (ha : AE X a ta) : AE X (.UnaryOp .Not a pos) (aNotV ta) := peI (pe_not ha) fun _ _ _ ⟨t, m, q, h1, h2, h3, h4⟩ => by
  refine ⟨t, m, _, h1, h2, h3, fun x m1 v H1 l1 g1 r1 q1 => ?_⟩
  cases x with
  | bl c => cases r1; exact ⟨c, rfl, h4 _ _ _ _ l1 g1 (.bl (!c)) q1⟩
  | _ => exact q1.elim
def aIf (t : ATT) (ta tb : ATE) : ATE := fun a m q => t a m fun c m1 => if c = true then ta a m1 q else tb a m1 q
theorem ae_if (hc : AT X c tA) (ha : AE X a ta) (hb : AE X b tb) : AE X (.IfExp c a b pos) (aIf tA ta tb) := peI (pe_ifExp hc ha hb) fun _ _ _ ⟨t, m, q, h1, h2, h3, h4⟩ => by
  refine ⟨t, m, _, h1, h2, h3, fun c m1 H1 l1 g1 q1 => ?_⟩
  cases c with
  | true => exact ⟨t, m1, q, h1.mono l1, g1, q1, h4.mono l1⟩
  | false => exact ⟨t, m1, q, h1.mono l1, g1, q1, h4.mono l1⟩

def aNil : ATA := fun _ m q => q [] m
def aCons (ta : ATE) (tr : ATA) : ATA := fun t m q => ta t m fun x m1 => tr t m1 fun xs m2 => q (x :: xs) m2
theorem aa_nil : AA X [] aNil := paI pa_nil fun _ H _ ⟨t, m, q, h1, h2, h3, h4⟩ => h4 [] m [] H .refl h2 .nil h3
theorem aa_cons (ha : AE X a ta) (hr : AA X es tes) (hs : starEach (a :: es) X.env = (false, eval a X.env) :: starEach es X.env := by rfl) : AA X (a :: es) (aCons ta tes) := paI (pa_cons ha hr hs) fun _ _ _ ⟨t, m, q, h1, h2, h3, h4⟩ =>
  ⟨t, m, _, h1, h2, h3, fun x m1 v H1 l1 g1 r1 q1 => ⟨t, m1, _, h1.mono l1, g1, q1, fun xs m2 vs H2 l2 g2 r2 q2 => h4 _ _ _ _ (l1.trans l2) g2 (.cons (r1.mono l2) r2) q2⟩⟩
def aTup (t : ATA) : ATE := fun a m q => t a m fun xs m1 => xs.length ≤ sizeLine ∧ q (.tup xs) m1
def aLst (t : ATA) : ATE := fun a m q => t a m fun xs m1 => xs.length ≤ sizeLine ∧ ∀ p, m1 p = none → q (.ref p) (updA m1 p (.lst xs))
theorem pl_new {K : PySem.W.Frag} {H : Hp} {p : Addr} {vs : List V} {o : Obj} (h : o.dict = none) : PlT K (upd H p (.frz o (.tup vs))) p vs := .inl ⟨o, h, upd_same⟩
theorem sq_new {K : PySem.W.Frag} {H : Hp} {p : Addr} {vs : List V} : SqT K (upd H p (.tup vs)) p vs := SqT.of upd_same
abbrev tupO (its : Array Value) : Obj := { cls := .type "tuple", data := .seq its }
theorem ok_new {P : Program} {w : World} {H : Hp} {h : Heap} {xs : List V} {its : List Value} (hz : xs.length ≤ sizeLine) (r : Vals xs its) : ObjOk P w (upd H h.objs.size (.frz (tupO its.toArray) (.tup xs))) (h.push (tupO its.toArray)) h.objs.size (.frz (tupO its.toArray) (.tup xs)) :=
  ⟨Heap.get?_push_size _ rfl, hz, its, r, ⟨_, Heap.get?_push_size _ rfl, rfl, _, rfl⟩⟩
def tTupF (t : TA) : TE := fun σ H Q => t σ H fun xs H1 => xs.length ≤ sizeLine ∧ ∀ (p : Addr) (o : Obj), o.dict = none → H1 p = none → Q (.ref p) (upd H1 p (.frz o (.tup xs)))
theorem pe_tupF {X : Cx} {pos : Pos} {es : List Expr} {x1} {t : TA} (h : PA X es t) : PE X (.Tuple es x1 pos) (tTupF t) := by
  refine ⟨fun pins s σ H Q I hq => wpAny_Tuple_spliced (thn (h.run pos pins s σ H _ I hq) fun us s1 ⟨xs, H1, I1, r, z, q⟩ => ⟨by rw [← r.length]; exact z, ?_⟩)⟩
  exact ⟨.ref s1.heap.objs.size, _, I1.laid (t' := s1.toks) (fun b u e => Heap.get?_push_of_some _ e) (Nat.le_refl _) (ok_new z r), rfl, q _ _ rfl (I1.hok.fresh (Nat.le_refl _))⟩
theorem KE.newT {K : PySem.W.Frag} {H : Hp} {q : AK} {Q : VK} {m : AHp} {xs : List AV} {vs : List V} {p : Addr} {o : Obj} (h : KE K H q Q) (g : SimH K H m) (r : SimVs K H xs vs) (ho : o.dict = none) (hp : H p = none) (k : q (.tup xs) m) : Q (.ref p) (upd H p (.frz o (.tup vs))) :=
  h _ m _ _ (.new hp) (g.more hp) (.tup (pl_new ho) (r.mono (.new hp))) k
theorem KE.newL {K : PySem.W.Frag} {H : Hp} {q : AK} {Q : VK} {m : AHp} {xs : List AV} {vs : List V} {p : Addr} (h : KE K H q Q) (g : SimH K H m) (r : SimVs K H xs vs) (hp : H p = none) (k : ∀ p, m p = none → q (.ref p) (updA m p (.lst xs))) : Q (.ref p) (upd H p (.lst vs)) :=
  h _ _ _ _ (.new hp) (g.new hp (o := .lst xs) ⟨vs, upd_same, r.mono (.new hp)⟩) (.ref p) (k p (g.free hp))
theorem ae_tup {x1} (h : AA X es tes) : AE X (.Tuple es x1 pos) (aTup tes) := peI (pe_tupF h) fun _ _ _ ⟨t, m, q, h1, h2, h3, h4⟩ =>
  ⟨t, m, _, h1, h2, h3, fun xs m1 vs H1 l1 g1 r1 q1 => ⟨by rw [← r1.length]; exact q1.1, fun p o ho hp => (h4.mono l1).newT g1 r1 ho hp q1.2⟩⟩
theorem ae_lst (h : AA X es tes) : AE X (.List es pos) (aLst tes) := peI (pe_lst h) fun _ _ _ ⟨t, m, q, h1, h2, h3, h4⟩ =>
  ⟨t, m, _, h1, h2, h3, fun xs m1 vs H1 l1 g1 r1 q1 => ⟨by rw [← r1.length]; exact q1.1, fun p hp => (h4.mono l1).newL g1 r1 hp q1.2⟩⟩

theorem ae_ix {r : AR2} (hr : IxR X (cl2 X.K r)) (ha : AE X a ta) (hb : AE X b tb) (hs : PlainIx b := by first | exact fun _ _ => rfl) : AE X (.Subscript a b pos) (aOp r ta tb) := peI (pe_ix hr ha hb hs) fun _ _ _ h => bin2 h
abbrev ATO := ASt → AHp → (Option Int → AHp → Prop) → Prop
def clO (K : PySem.W.Frag) (t : ATO) : TO := fun σ H Q => ∃ a m q, SimS K H a σ ∧ SimH K H m ∧ t a m q ∧ ∀ o m' H', Le K H H' → SimH K H' m' → q o m' → Q o H'
def aNoPart : ATO := fun _ m q => q none m
def aPart (t : ATE) : ATO := fun a m q => t a m fun x m1 => match x with
  | .int i => q (some i) m1
  | _ => False
theorem poI {e : Option Expr} {t u : TO} (h : PO X e t) (i : ∀ σ H Q, u σ H Q → t σ H Q) : PO X e u := ⟨fun pins s σ H Q I q => h.run pins s σ H Q I (i σ H Q q)⟩
theorem ao_none : PO X none (clO X.K aNoPart) := poI po_none fun _ H _ ⟨t, m, q, h1, h2, h3, h4⟩ => h4 none m H .refl h2 h3
theorem ao_some (h : AE X a ta) : PO X (some a) (clO X.K (aPart ta)) := poI (po_some h) fun _ _ _ ⟨t, m, q, h1, h2, h3, h4⟩ => by
  refine ⟨t, m, _, h1, h2, h3, fun x m1 v H1 l1 g1 r1 q1 => ?_⟩
  cases x with
  | int i => cases r1; exact ⟨i, rfl, h4 _ _ _ l1 g1 q1⟩
  | _ => exact q1.elim
abbrev ARS := AV → Option Int → Option Int → AHp → AK → Prop
def clSl (K : PySem.W.Frag) (r : ARS) : V → Option Int → Option Int → Hp → VK → Prop := fun v lo hi H Q => ∃ x m q, SimV K H x v ∧ SimH K H m ∧ r x lo hi m q ∧ KE K H q Q
def aSl (r : ARS) (te : ATE) (tl th : ATO) : ATE := fun a m q => te a m fun x m1 => tl a m1 fun l m2 => th a m2 fun u m3 => r x l u m3 q
theorem ae_slice {r : ARS} {lo hi : Option Expr} {tl th : ATO} {p2 : Pos} (hr : SlR X (clSl X.K r)) (he : AE X a ta) (hl : PO X lo (clO X.K tl)) (hh : PO X hi (clO X.K th)) : AE X (.Subscript a (.Slice lo hi none p2) pos) (aSl r ta tl th) :=
  peI (pe_slice hr he hl hh) fun _ _ _ ⟨t, m, q, h1, h2, h3, h4⟩ => ⟨t, m, _, h1, h2, h3, fun x m1 v H1 l1 g1 r1 q1 => ⟨t, m1, _, h1.mono l1, g1, q1, fun o m2 H2 l2 g2 q2 => ⟨t, m2, _, h1.mono (l1.trans l2), g2, q2, fun o' m3 H3 l3 g3 q3 =>
    ⟨x, m3, q, r1.mono (l2.trans l3), g3, q3, h4.mono (l1.trans (l2.trans l3))⟩⟩⟩⟩
def aCB (r : List AV → AHp → AK → Prop) (t : ATA) : ATE := fun a m q => t a m fun xs m1 => r xs m1 q
variable {x : Str} {p : Pos} {id T : String} {r : List AV → AHp → AK → Prop}
theorem cb_of {K : PySem.W.Frag} {σ : L2.St} {H : Hp} {Q : VK} : clE K (aCB r tes) σ H Q → tCB (clL K r) (clA K tes) σ H Q := fun ⟨t, m, q, h1, h2, h3, h4⟩ =>
  ⟨t, m, _, h1, h2, h3, fun xs m1 vs H1 l1 g1 r1 q1 => ⟨xs, m1, q, r1, g1, q1, h4.mono l1⟩⟩
theorem ae_callB (hc : CallR X (.builtin id) (clL X.K r)) (hg : Gl X x) (hm : X.mg x = none) (hv : bootBuiltins x = some (.builtin id)) (ha : AA X (a :: es) tes) (hn : x ≠ "__name__" := by decide) (hdb : (x == ("__debug__" : Str)) = false := by decide)
    (he : starEach (a :: es) X.env = (false, eval a X.env) :: starEach es X.env := by rfl) (hpl : (backTo pos (starEach es X.env)).any (·.1) = false := by rfl) : AE X (.Call (.Name x p) (a :: es) [] pos) (aCB r tes) := peI (pe_callB hc hg hm hv ha hn hdb he hpl) fun _ _ _ h => cb_of h
theorem ae_callTy (hc : CallR X (.type T) (clL X.K r)) (hg : Gl X x) (hm : X.mg x = none) (hv : bootBuiltins x = some (.type T)) (ha : AA X (a :: es) tes) (hn : x ≠ "__name__" := by decide) (hdb : (x == ("__debug__" : Str)) = false := by decide)
    (he : starEach (a :: es) X.env = (false, eval a X.env) :: starEach es X.env := by rfl) (hpl : (backTo pos (starEach es X.env)).any (·.1) = false := by rfl) : AE X (.Call (.Name x p) (a :: es) [] pos) (aCB r tes) := peI (pe_callTy hc hg hm hv ha hn hdb he hpl) fun _ _ _ h => cb_of h
def aBM (ty : AV → AHp → Prop) (r : AV → List AV → AHp → AK → Prop) (to : ATE) (t : ATA) : ATE := fun a m q => to a m fun x m1 => ty x m1 ∧ t a m1 fun xs m2 => r x xs m2 q
theorem ae_bm {name : Str} {apos cpos : Pos} {o : Expr} {to : ATE} {ty : AV → AHp → Prop} {rM : AV → List AV → AHp → AK → Prop} (pa : PlainAttrs T) (slot : Slot T name id) (hty : typeOf (.builtin id) = pure (.type "method_descriptor")) (hm : MtR X id (clM X.K rM))
    (hT : ∀ (y : AV) (v : V) (m : AHp) (H : Hp), SimH X.K H m → SimV X.K H y v → ty y m → tyV X.K T v H) (ho : AE X o to) (ha : AA X (a :: es) tes)
    (h : ∀ t u, PE X o t → PA X (a :: es) u → PE X (.Call (.Attribute o name apos) (a :: es) [] cpos) (tBM X.K T (clM X.K rM) t u)) : AE X (.Call (.Attribute o name apos) (a :: es) [] cpos) (aBM ty rM to tes) :=
  peI (h _ _ ho ha) fun _ _ _ ⟨t, m, q, h1, h2, h3, h4⟩ => ⟨t, m, _, h1, h2, h3, fun y m1 v H1 l1 g1 r1 q1 => ⟨hT _ _ _ _ g1 r1 q1.1, t, m1, _, h1.mono l1, g1, q1.2, fun xs m2 vs H2 l2 g2 r2 q2 => ⟨y, xs, m2, q, r1.mono l2, r2, g2, q2, h4.mono (l1.trans l2)⟩⟩⟩
theorem ae_bm0 {name : Str} {apos cpos : Pos} {o : Expr} {to : ATE} {ty : AV → AHp → Prop} {rM : AV → List AV → AHp → AK → Prop}
    (hT : ∀ (y : AV) (v : V) (m : AHp) (H : Hp), SimH X.K H m → SimV X.K H y v → ty y m → tyV X.K T v H) (ho : AE X o to)
    (h : ∀ t, PE X o t → PE X (.Call (.Attribute o name apos) [] [] cpos) (tBM0 X.K T (clM X.K rM) t)) : AE X (.Call (.Attribute o name apos) [] [] cpos) (aBM ty rM to aNil) :=
  peI (h _ ho) fun _ _ _ ⟨t, m, q, h1, h2, h3, h4⟩ => ⟨t, m, _, h1, h2, h3, fun y m1 v H1 l1 g1 r1 q1 => ⟨hT _ _ _ _ g1 r1 q1.1, y, [], m1, q, r1, .nil, g1, q1.2, h4.mono l1⟩⟩
end
end Ab

namespace Ab
open PySem PySem.Spec PyProof.Rows L2

section
variable {X : Cx} {pos : Pos} {st : Stmt} {rest : List Stmt} {t u : ATS} {e : Expr} {te : ATE}
def Fg (K : PySem.W.Frag) (m : AHp) (p : AHp → Prop) : Prop := ∃ m2, (∀ H, SimH K H m → SimH K H m2) ∧ p m2
def aNext : ATS := fun d a m => d.nx a m
def aSeq (K : PySem.W.Frag) (t u : ATS) : ATS := fun d a m => t ⟨fun a' m' => Fg K m' (u d a'), d.rt, d.bk, d.ct⟩ a m
theorem as_of {s : Stmt} {w : TS} {v : ATS} (h : PS X s w) (i : ∀ d D a m σ H, SimS X.K H a σ → SimH X.K H m → v d a m → KD X.K H d D → w D σ H) : AS X s v := psI h fun D σ H ⟨a, m, d, h1, h2, h3, h4⟩ => i d D a m σ H h1 h2 h3 h4
theorem ass_nil : ASs X [] aNext := pssI pss_nil fun D σ H ⟨a, m, d, h1, h2, h3, h4⟩ => h4.nx a m σ H .refl h1 h2 h3
theorem ass_cons (h1 : AS X st t) (h2 : ASs X rest u) : ASs X (st :: rest) (aSeq X.K t u) := pssI (pss_cons h1 h2) fun D σ H ⟨a, m, d, h1, h2, h3, h4⟩ =>
  ⟨a, m, _, h1, h2, h3, ⟨fun t' m' σ' H' l s h ⟨m2, z, q⟩ => ⟨t', m2, d, s, z _ h, q, h4.mono l⟩, h4.rt, h4.bk, h4.ct⟩⟩
theorem ass_one (h1 : AS X st t) : ASs X [st] t := pss_one h1
def aBreak : ATS := fun d a m => d.bk a m
def aCont : ATS := fun d a m => d.ct a m
theorem as_pass : AS X (.Pass pos) aNext := as_of ps_pass fun d D a m σ H h1 h2 h3 h4 => h4.nx a m σ H .refl h1 h2 h3
theorem as_break : AS X (.Break pos) aBreak := as_of ps_break fun d D a m σ H h1 h2 h3 h4 => h4.bk a m σ H .refl h1 h2 h3
theorem as_continue : AS X (.Continue pos) aCont := as_of ps_continue fun d D a m σ H h1 h2 h3 h4 => h4.ct a m σ H .refl h1 h2 h3
def aDrop (te : ATE) : ATS := fun d a m => te a m fun _ m1 => d.nx a m1
theorem as_expr (he : AE X e te) (hs : swapsWith e none pos.line X.env = pure false := by rfl) : AS X (.Expr e pos) (aDrop te) := as_of (ps_expr he hs) fun d D a m σ H h1 h2 h3 h4 =>
  ⟨a, m, _, h1, h2, h3, fun x m' v H' l g r q => h4.nx a m' σ H' l (h1.mono l) g q⟩
def aRet (te : ATE) : ATS := fun d a m => te a m d.rt
theorem as_ret (he : AE X e te) : AS X (.Return (some e) pos) (aRet te) := as_of (ps_ret he) fun d D a m σ H h1 h2 h3 h4 => ⟨a, m, _, h1, h2, h3, h4.rt⟩
def aIfS (c : ATT) (t u : ATS) : ATS := fun d a m => c a m fun b m1 => if b = true then t d a m1 else u d a m1
theorem as_if {c : Expr} {a b : List Stmt} {tc : ATT} (hc : AT X c tc) (ha : ASs X a t) (hb : ASs X b u) : AS X (.If c a b pos) (aIfS tc t u) := as_of (ps_if hc ha hb) fun d D a m σ H h1 h2 h3 h4 => by
  refine ⟨a, m, _, h1, h2, h3, fun b m1 H1 l g q => ?_⟩
  cases b with
  | true => exact ⟨a, m1, d, h1.mono l, g, q, h4.mono l⟩
  | false => exact ⟨a, m1, d, h1.mono l, g, q, h4.mono l⟩
def aNever : ATS := fun _ _ _ => False
theorem ass_never {sts : List Stmt} : ASs X sts aNever := pssI pss_never fun _ _ _ ⟨_, _, _, _, _, h, _⟩ => h

abbrev ATG := AV → ASt → AHp → (ASt → AHp → Prop) → Prop
abbrev ATGs := List AV → ASt → AHp → (ASt → AHp → Prop) → Prop
def KG (K : PySem.W.Frag) (H : Hp) (sl : List Nat) (σ : L2.St) (q : ASt → AHp → Prop) (Q : L2.St → Hp → Prop) : Prop :=
  ∀ t' m' σ' H', Le K H H' → SimS K H' t' σ' → SimH K H' m' → σ'.length = σ.length → (∀ i : Nat, i ∉ sl → σ'[i]? = σ[i]?) → q t' m' → Q σ' H'
def clG (K : PySem.W.Frag) (sl : List Nat) (g : ATG) : TG := fun v σ H Q => ∃ x a m q, SimV K H x v ∧ SimS K H a σ ∧ SimH K H m ∧ g x a m q ∧ KG K H sl σ q Q
def clGs (K : PySem.W.Frag) (sl : List Nat) (g : ATGs) : TGs := fun vs σ H Q => ∃ xs a m q, SimVs K H xs vs ∧ SimS K H a σ ∧ SimH K H m ∧ g xs a m q ∧ KG K H sl σ q Q
abbrev AG (X : Cx) (tg : Expr) (sl : List Nat) (g : ATG) : Prop := PG X tg (clG X.K sl g)
abbrev AGs (X : Cx) (tg : List Expr) (sl : List Nat) (g : ATGs) : Prop := PGs X tg (clGs X.K sl g)
theorem pgI {tg : Expr} {g k : TG} (h : PG X tg g) (i : ∀ v σ H Q, k v σ H Q → g v σ H Q) : PG X tg k := ⟨fun pins s σ H v u Q I r q => h.run pins s σ H v u Q I r (i v σ H Q q)⟩
theorem pgsI {tg : List Expr} {g k : TGs} (h : PGs X tg g) (i : ∀ v σ H Q, k v σ H Q → g v σ H Q) : PGs X tg k := ⟨fun pins s σ H v u Q I r q => h.run pins s σ H v u Q I r (i v σ H Q q)⟩
def aName (i : Nat) : ATG := fun x a m q => q (put a i x) m
theorem ag_name {i : Nat} {x : Str} (h : PG X (.Name x pos) (gName i)) : AG X (.Name x pos) [i] (aName i) := pgI h fun v σ H Q ⟨x, a, m, q, h1, h2, h3, h4, h5⟩ =>
  h5 _ m _ H .refl (h2.put h1 i) h3 (by simp) (fun j hj => by
    have : i ≠ j := fun z => hj (by simp [z])
    rw [List.getElem?_set_ne this]) h4
def aGNil : ATGs := fun xs a m q => match xs with
  | [] => q a m
  | _ => False
def aGCons (g : ATG) (r : ATGs) : ATGs := fun xs a m q => match xs with
  | x :: xs => g x a m fun a' m' => r xs a' m' q
  | [] => False
theorem ags_nil : AGs X [] [] aGNil := pgsI pgs_nil fun v σ H Q ⟨xs, a, m, q, h1, h2, h3, h4, h5⟩ => by
  cases h1 with
  | nil => exact ⟨rfl, h5 a m σ H .refl h2 h3 rfl (fun _ _ => rfl) h4⟩
  | cons _ _ => exact h4.elim
theorem ags_cons {es : List Expr} {sl sl' : List Nat} {g : ATG} {r : ATGs} (h1 : AG X e sl g) (h2 : AGs X es sl' r) (hs : (assignEach (e :: es) X.env).map (·.2) = assign e X.env :: (assignEach es X.env).map (·.2) := by rfl) : AGs X (e :: es) (sl ++ sl') (aGCons g r) :=
  pgsI (pgs_cons h1 h2 hs) fun v σ H Q ⟨xs, a, m, q, h1, h2, h3, h4, h5⟩ => by
    cases h1 with
    | nil => exact h4.elim
    | cons r1 rr =>
      refine ⟨_, _, rfl, _, a, m, _, r1, h2, h3, h4, fun t' m' σ' H' l s1 g1 z1 z2 q1 => ⟨_, t', m', q, rr.mono l, s1, g1, q1, fun t2 m2 σ2 H2 l2 s2 g2 z3 z4 q2 => h5 t2 m2 σ2 H2 (l.trans l2) s2 g2 (z3.trans z1) (fun i hi => ?_) q2⟩⟩
      rw [List.mem_append, not_or] at hi
      rw [z4 i hi.2, z2 i hi.1]
def aUnp (n : Nat) (g : ATGs) : ATG := fun x a m q => match x with
  | .tup xs => xs.length = n ∧ g xs a m q
  | .raw xs => xs.length = n ∧ g xs a m q
  | .ref b => match m b with
    | some (.lst xs) => xs.length = n ∧ g xs a m q
    | _ => False
  | _ => False
theorem pg_or {tg : Expr} {g k : TG} (h1 : PG X tg g) (h2 : PG X tg k) : PG X tg (fun v σ H Q => g v σ H Q ∨ k v σ H Q) := ⟨fun pins s σ H v u Q I r q => q.elim (h1.run pins s σ H v u Q I r) (h2.run pins s σ H v u Q I r)⟩
theorem ag_tup {es : List Expr} {k : Nat} {sl : List Nat} {g : ATGs} {n : Nat} (hc : X.calm = true) (h : AGs X es sl g)
    (hn : (assignEach es X.env).length = n := by rfl) (hst : (assignEach es X.env).findIdx? (·.1) = none := by rfl) : AG X (.Tuple es k pos) sl (aUnp n g) := pgI (pg_or (pg_tup hc h hn hst) (pg_unl hc h hn hst)) fun v σ H Q ⟨x, a, m, q, h1, h2, h3, h4, h5⟩ => by
  cases x with
  | tup xs =>
    cases h1 with
    | tup hq hs => exact .inl ⟨_, _, rfl, hq.sq, by rw [← hs.length]; exact h4.1, xs, a, m, q, hs, h2, h3, h4.2, h5⟩
  | raw xs =>
    cases h1 with
    | raw hq hs => exact .inl ⟨_, _, rfl, hq, by rw [← hs.length]; exact h4.1, xs, a, m, q, hs, h2, h3, h4.2, h5⟩
  | ref b =>
    cases h1
    have h4 : (match m b with | some (.lst xs) => xs.length = n ∧ g xs a m q | _ => False) := h4
    split at h4
    · rename_i xs e
      obtain ⟨ws, f1, f2⟩ := h3 b _ e
      exact .inr ⟨_, _, rfl, SqL.of f1, by rw [← f2.length]; exact h4.1, xs, a, m, q, f2, h2, h3, h4.2, h5⟩
    · exact h4.elim
  | _ => exact h4.elim
def aAsg (te : ATE) (g : ATG) : ATS := fun d a m => te a m fun x m1 => g x a m1 d.nx
theorem asg_of {K : PySem.W.Frag} {sl : List Nat} {g : ATG} {D : Ends} {σ : L2.St} {H : Hp} (h : clS K (aAsg te g) D σ H) : L2.tAsg (clE K te) (clG K sl g) D σ H := by
  obtain ⟨a, m, d, h1, h2, h3, h4⟩ := h
  exact ⟨a, m, _, h1, h2, h3, fun x m1 v H1 l g1 r q => ⟨x, a, m1, _, r, h1.mono l, g1, q, fun t' m' σ' H' l' s' g' _ _ q' => h4.nx t' m' σ' H' (l.trans l') s' g' q'⟩⟩
theorem as_asg {tg : Expr} {sl : List Nat} {g : ATG} (he : AE X e te) (hg : AG X tg sl g) (hs : swapsWithSole [tg] e pos.line X.env = pure false := by rfl) (hw : swappedStores [tg] e X.env = pure none := by rfl)
    (h1 : (assignEach [tg] X.env).map (·.2) = [assign tg X.env] := by rfl) : AS X (.Assign [tg] e pos) (aAsg te g) := psI (ps_asg he hg hs hw h1) fun _ _ _ h => asg_of h
theorem as_set {i : Nat} {x : Str} {pos' : Pos} (hN : X.N.Nodup) (hi : X.N[i]? = some x) (hx : Loc X.env.scope x) (he : AE X e te) (hs : swapsWith e (some (.Name x pos')) pos.line X.env = pure false := by rfl)
    (hf : X.fn x = true ∨ X.env.scope.names.lookup x = some .local := by first | exact .inl rfl | exact .inr rfl | assumption) : AS X (.Assign [.Name x pos'] e pos) (aAsg te (aName i)) := psI (ps_set hN hi hx he hs hf) fun D σ H ⟨a, m, d, h1, h2, h3, h4⟩ =>
  ⟨a, m, _, h1, h2, h3, fun x m1 v H1 l g1 r q => h4.nx _ m1 _ H1 l ((h1.mono l).put r i) g1 q⟩
def aPar (i j : Nat) (ta : ATA) : ATS := fun d a m => ta a m fun xs m1 => match xs with
  | [x, y] => d.nx (put (put a i x) j y) m1
  | _ => False
theorem as_par {i j : Nat} {x y : Str} {a b : Expr} {ta : ATA} {px py pt : Pos} {kt k2 pt2} (hc : X.calm = true) (hN : X.N.Nodup) (hi : X.N[i]? = some x) (hj : X.N[j]? = some y) (hij : i ≠ j)
    (hx : X.env.scope.names.lookup x = some .local) (hy : X.env.scope.names.lookup y = some .local) (ha : AA X [a, b] ta)
    (hw : swappedStores [.Tuple [.Name x px, .Name y py] kt pt] (.Tuple [a, b] k2 pt2) X.env = pure (some [x, y]))
    (hs : swapsWithSole [.Tuple [.Name x px, .Name y py] kt pt] (.Tuple [a, b] k2 pt2) pos.line X.env = pure false := by rfl) :
    AS X (.Assign [.Tuple [.Name x px, .Name y py] kt pt] (.Tuple [a, b] k2 pt2) pos) (aPar i j ta) := psI (ps_par hc hN hi hj hij hx hy ha hw hs) fun D σ H ⟨a, m, d, h1, h2, h3, h4⟩ => by
  refine ⟨a, m, _, h1, h2, h3, fun xs m1 vs H1 l g1 r q => ?_⟩
  match xs, r, q with
  | [x, y], .cons r1 (.cons r2 .nil), q => exact ⟨_, _, rfl, h4.nx _ m1 _ H1 l (((h1.mono l).put r1 i).put r2 j) g1 q⟩
  | [], _, q => exact q.elim
  | [_], _, q => exact q.elim
  | _ :: _ :: _ :: _, _, q => exact q.elim
def aAug (i : Nat) (r : AR2) (te : ATE) : ATS := fun d a m => match slot a i with
  | some x => te a m fun y m1 => r x y m1 fun z m2 => d.nx (put a i z) m2
  | none => False
theorem as_aug {i : Nat} {x : Str} {op : Operator} {r : AR2} {pos' : Pos} (hN : X.N.Nodup) (hi : X.N[i]? = some x) (hx : Loc X.env.scope x) (he : AE X e te) (ho : OpR X (inplaceOp op) (cl2 X.K r))
    (hf : X.fn x = true ∨ X.env.scope.names.lookup x = some .local := by first | exact .inl rfl | exact .inr rfl | assumption) : AS X (.AugAssign (.Name x pos') op e pos) (aAug i r te) :=
  psI (ps_aug hN hi hx he (ti := cl2 X.K r) (fun pins s σ H x y v u Q I r1 r2 h => ho pins s σ H x y v u Q I r1 r2 h) hf) fun D σ H ⟨a, m, d, h1, h2, h3, h4⟩ => by
    unfold aAug at h3
    cases es : slot a i with
    | none => rw [es] at h3; exact h3.elim
    | some x =>
      rw [es] at h3
      obtain ⟨w, g1, g2⟩ := h1.get i x (slot_get es)
      exact ⟨w, g1, a, m, _, h1, h2, h3, fun y m1 v H1 l1 g1 r1 q1 => ⟨x, y, m1, _, g2.mono l1, r1, g1, q1, fun z m2 u H2 l2 g2 r2 q2 => h4.nx _ m2 _ H2 (l1.trans l2) ((h1.mono (l1.trans l2)).put r2 i) g2 q2⟩⟩
abbrev ATSet := AV → AV → AV → AHp → (AHp → Prop) → Prop
def clSet (K : PySem.W.Frag) (r : ATSet) : TSet := fun o i v H Q => ∃ x y z m q, SimV K H x o ∧ SimV K H y i ∧ SimV K H z v ∧ SimH K H m ∧ r x y z m q ∧ ∀ m' H', Le K H H' → SimH K H' m' → q m' → Q H'
def aSub (to ti : ATE) (r : ATSet) : ATG := fun z a m q => to a m fun x m1 => ti a m1 fun y m2 => r x y z m2 fun m3 => q a m3
theorem ag_sub {o i : Expr} {to ti : ATE} {r : ATSet} (ho : AE X o to) (hi : AE X i ti) (hs : PSet X (clSet X.K r))
    (ha : ∀ v, assign (.Subscript o i pos) X.env v = (do
      let ov ← holding [v] (eval o X.env)
      let iv ← holding [v, ov] (eval i X.env)
      standAt pos
      holding [v, ov, iv] (setItem ov iv v)
      release [v, ov, iv] []) := by intro _; rfl) : AG X (.Subscript o i pos) [] (aSub to ti r) := pgI (pg_sub ho hi hs ha) fun v σ H Q ⟨z, a, m, q, h1, h2, h3, h4, h5⟩ =>
  ⟨a, m, _, h2, h3, h4, fun x m1 ov H1 l1 g1 r1 q1 => ⟨a, m1, _, h2.mono l1, g1, q1, fun y m2 iv H2 l2 g2 r2 q2 => ⟨x, y, z, m2, _, r1.mono l2, r2, h1.mono (l1.trans l2), g2, q2, fun m3 H3 l3 g3 q3 =>
    h5 a m3 σ H3 (l1.trans (l2.trans l3)) (h2.mono (l1.trans (l2.trans l3))) g3 rfl (fun _ _ => rfl) q3⟩⟩⟩

def whileN (K : PySem.W.Frag) (c : ATT) (tb : ATS) (d : AEnds) : Nat → ASt → AHp → Prop
  | 0, _, _ => False
  | n + 1, a, m => c a m fun b m1 => if b = true then tb ⟨fun a' m' => Fg K m' (whileN K c tb d n a'), d.rt, d.nx, fun a' m' => Fg K m' (whileN K c tb d n a')⟩ a m1 else d.nx a m1
def aWhile (K : PySem.W.Frag) (c : ATT) (tb : ATS) : ATS := fun d a m => ∃ n, whileN K c tb d n a m
theorem as_while {c : Expr} {body : List Stmt} {tc : ATT} {tb : ATS} (hp : PassesOwn (model X.prog X.w) X.A X.env X.xe) (hc : AT X c tc) (hb : ASs X body tb) : AS X (.While c body [] pos) (aWhile X.K tc tb) := psI (ps_while hp hc hb) fun D σ H ⟨a, m, d, h1, h2, ⟨n, h3⟩, h4⟩ => by
  refine ⟨fun n σ' H' => ∃ a m, Le X.K H H' ∧ SimS X.K H' a σ' ∧ SimH X.K H' m ∧ whileN X.K tc tb d n a m, ⟨n, a, m, .refl, h1, h2, h3⟩, ?_⟩
  rintro n σ1 H1 ⟨a1, m1, l1, s1, g1, w1⟩
  cases n with
  | zero => exact w1.elim
  | succ n =>
    refine ⟨a1, m1, _, s1, g1, w1, fun b m2 H2 l2 g2 q2 => ?_⟩
    cases b with
    | true =>
      rw [if_pos rfl]
      have q2 : tb ⟨fun a' m' => Fg X.K m' (whileN X.K tc tb d n a'), d.rt, d.nx, fun a' m' => Fg X.K m' (whileN X.K tc tb d n a')⟩ a1 m2 := q2
      have k := h4.mono (l1.trans l2)
      exact ⟨fun σ' H' => ∃ a m, Le X.K H H' ∧ SimS X.K H' a σ' ∧ SimH X.K H' m ∧ whileN X.K tc tb d n a m, fun σ' H' z => ⟨n, Nat.lt_succ_self n, z⟩, a1, m2, _, s1.mono l2, g2, q2,
        ⟨fun t' m' σ' H' l s g ⟨m5, z, q⟩ => ⟨t', m5, l1.trans (l2.trans l), s, z _ g, q⟩, k.rt, k.nx, fun t' m' σ' H' l s g ⟨m5, z, q⟩ => ⟨t', m5, l1.trans (l2.trans l), s, z _ g, q⟩⟩⟩
    | false =>
      rw [if_neg Bool.false_ne_true]
      have q2 : d.nx a1 m2 := q2
      exact h4.nx a1 m2 σ1 H2 (l1.trans l2) (s1.mono l2) g2 q2

structure ItS (K : PySem.W.Frag) (H0 : Hp) (xs : List AV) (G : AHp → Prop) (J : It) : Prop where
  go : ∀ i H m, Le K H0 H → SimH K H m → G m → i < xs.length → J.go i H
  yld : ∀ (i : Nat) H m v H' x, Le K H0 H → SimH K H m → G m → xs[i]? = some x → J.yld i H v H' → Le K H H' ∧ SimH K H' m ∧ SimV K H' x v
  stop : ∀ i H m, Le K H0 H → SimH K H m → G m → xs.length ≤ i → J.stop i H
abbrev ATI := ASt → AHp → (List AV → (AHp → Prop) → AHp → Prop) → Prop
def clI (K : PySem.W.Frag) (w : ATI) : TI := fun σ H R => ∃ a m q, SimS K H a σ ∧ SimH K H m ∧ w a m q ∧ ∀ xs G m' J H', Le K H H' → SimH K H' m' → ItS K H' xs G J → q xs G m' → R J H'
abbrev AI (X : Cx) (tg iter : Expr) (w : ATI) : Prop := PI X tg iter (clI X.K w)
theorem piI {tg iter : Expr} {w w' : TI} (h : PI X tg iter w) (i : ∀ σ H R, w' σ H R → w σ H R) : PI X tg iter w' := ⟨fun pins s σ H R I q => h.run pins s σ H R I (i σ H R q)⟩
def forL (K : PySem.W.Frag) (g : ATG) (tb : ATS) (G : AHp → Prop) (d : AEnds) : List AV → ASt → AHp → Prop
  | [], a, m => G m ∧ d.nx a m
  | x :: xs, a, m => G m ∧ g x a m fun a2 m2 => tb ⟨fun a' m' => Fg K m' (forL K g tb G d xs a'), d.rt, d.nx, fun a' m' => Fg K m' (forL K g tb G d xs a')⟩ a2 m2
def aFor (K : PySem.W.Frag) (w : ATI) (g : ATG) (tb : ATS) : ATS := fun d a m => w a m fun xs G m1 => forL K g tb G d xs a m1
theorem as_for {tg iter : Expr} {body : List Stmt} {w : ATI} {sl : List Nat} {g : ATG} {tb : ATS} (hp : PassesOwn (model X.prog X.w) X.A X.env X.xe) (hc : X.calm = true) (hi : AI X tg iter w) (hg : AG X tg sl g) (hb : ASs X body tb)
    (hs : ∀ x, foldedSetIterable iter X.env x = pure x := by intro _; rfl) : AS X (.For tg iter body [] pos) (aFor X.K w g tb) := psI (ps_for hp hc hi hg hb hs) fun D σ H ⟨a, m, d, h1, h2, h3, h4⟩ => by
  refine ⟨a, m, _, h1, h2, h3, fun xs G m1 J H1 l1 g1 S q1 => ⟨fun i k σ' H' => k = xs.length - i ∧ i ≤ xs.length ∧ ∃ a m, Le X.K H1 H' ∧ SimS X.K H' a σ' ∧ SimH X.K H' m ∧ forL X.K g tb G d (xs.drop i) a m, ⟨xs.length, by simp, Nat.zero_le _, a, m1, .refl, h1.mono l1, g1, q1⟩, ?_⟩⟩
  rintro i k σ2 H2 ⟨rfl, hi, a2, m2, l2, s2, g2, q2⟩
  by_cases hlt : i < xs.length
  · rw [List.drop_eq_getElem_cons hlt] at q2
    obtain ⟨gm, q2⟩ := q2
    refine .inr ⟨S.go i H2 m2 l2 g2 gm hlt, fun σ' H' => ∃ a m, Le X.K H1 H' ∧ SimS X.K H' a σ' ∧ SimH X.K H' m ∧ forL X.K g tb G d (xs.drop (i + 1)) a m, fun σ' H' z => ⟨xs.length - (i + 1), by omega, rfl, hlt, z⟩, fun v H3 y => ?_⟩
    obtain ⟨l3, g3, r3⟩ := S.yld i H2 m2 v H3 xs[i] l2 g2 gm (List.getElem?_eq_getElem hlt) y
    refine ⟨xs[i], a2, m2, _, r3, s2.mono l3, g3, q2, fun t4 m4 σ4 H4 l4 s4 g4 _ _ q4 => ?_⟩
    have k := h4.mono (l1.trans (l2.trans (l3.trans l4)))
    exact ⟨t4, m4, _, s4, g4, q4, ⟨fun t' m' σ' H' l s g ⟨m5, z, q⟩ => ⟨t', m5, l2.trans (l3.trans (l4.trans l)), s, z _ g, q⟩, k.rt, k.nx, fun t' m' σ' H' l s g ⟨m5, z, q⟩ => ⟨t', m5, l2.trans (l3.trans (l4.trans l)), s, z _ g, q⟩⟩⟩
  · have hi' : xs.length ≤ i := Nat.le_of_not_lt hlt
    rw [List.drop_eq_nil_of_le hi'] at q2
    exact .inl ⟨S.stop i H2 m2 l2 g2 q2.1 hi', h4.nx a2 m2 σ2 H2 (l1.trans l2) s2 g2 q2.2⟩

variable {tg : Expr}
def wSeq (te : ATE) : ATI := fun a m q => te a m fun x m1 => match x with
  | .ref b => ∃ xs, m1 b = some (.lst xs) ∧ q xs (fun m => m b = some (.lst xs)) m1
  | _ => False
theorem ai_list (h : AE X e te) : AI X tg e (wSeq te) := piI (pi_list h) fun σ H R ⟨a, m, q, h1, h2, h3, h4⟩ => by
  refine ⟨a, m, _, h1, h2, h3, fun x m1 v H1 l1 g1 r1 q1 => ?_⟩
  cases x with
  | ref b =>
    cases r1
    obtain ⟨xs, e1, q1⟩ := q1
    obtain ⟨ws, f1, f2⟩ := g1 b _ e1
    refine ⟨b, rfl, ⟨ws, SqL.of f1⟩, h4 xs _ m1 _ H1 l1 g1 ⟨fun i H' m' l g e i1 => ?_, fun i H' m' v H2 x l g e e2 y => ?_, fun i H' m' l g e i1 => ?_⟩ q1⟩
    · obtain ⟨ws, f1, f2⟩ := g b _ e
      have : i < ws.length := by rw [← f2.length]; exact i1
      exact ⟨ws, ws[i], SqL.of f1, List.getElem?_eq_getElem this⟩
    · obtain ⟨ws, f1, f2⟩ := g b _ e
      obtain ⟨rfl, y⟩ := y
      obtain ⟨v', e3, r3⟩ := f2.get e2
      have := y ws (SqL.of f1)
      rw [e3] at this; cases this
      exact ⟨.refl, g, r3⟩
    · obtain ⟨ws, f1, f2⟩ := g b _ e
      exact ⟨ws, SqL.of f1, by rw [← f2.length]; exact i1⟩
  | _ => exact q1.elim
def wTup (te : ATE) : ATI := fun a m q => te a m fun x m1 => match x with
  | .tup xs => q xs (fun _ => True) m1
  | _ => False
theorem ai_tup (h : AE X e te) : AI X tg e (wTup te) := piI (pi_tup h) fun σ H R ⟨a, m, q, h1, h2, h3, h4⟩ => by
  refine ⟨a, m, _, h1, h2, h3, fun x m1 v H1 l1 g1 r1 q1 => ?_⟩
  cases x with
  | tup xs =>
    cases r1 with
    | tup f1 f2 =>
      rename_i b ws
      have f1 := f1.sq
      refine ⟨b, rfl, ⟨ws, f1⟩, h4 xs _ m1 _ H1 l1 g1 ⟨fun i H' m' l g e i1 => ?_, fun i H' m' v H2 x l g e e2 y => ?_, fun i H' m' l g e i1 => ?_⟩ q1⟩
      · have : i < ws.length := by rw [← f2.length]; exact i1
        exact ⟨ws, ws[i], l.tup _ _ f1, List.getElem?_eq_getElem this⟩
      · obtain ⟨rfl, y⟩ := y
        obtain ⟨v', e3, r3⟩ := f2.get e2
        have := y ws (l.tup _ _ f1)
        rw [e3] at this; cases this
        exact ⟨.refl, g, r3.mono l⟩
      · exact ⟨ws, l.tup _ _ f1, by rw [← f2.length]; exact i1⟩
  | _ => exact q1.elim
def upto (n : Nat) : List AV := (List.range n).map fun i => AV.int (i : Nat)
theorem upto_len (n : Nat) : (upto n).length = n := by unfold upto; rw [List.length_map, List.length_range]
def wRange1 (te : ATE) : ATI := fun a m q => te a m fun x m1 => match x with
  | .int j => j < 2 ^ 62 ∧ -(2 ^ 62) ≤ j ∧ q (upto j.toNat) (fun _ => True) m1
  | _ => False
theorem itr_s {K : PySem.W.Frag} {H : Hp} (n : Nat) : ItS K H (upto n) (fun _ => True) (Itr 0 n) :=
  ⟨fun i H' m' l g e i1 => by rw [upto_len] at i1; exact i1, fun i H' m' v H2 x l g e e2 y => by
    obtain ⟨rfl, rfl⟩ := y
    have e2 : ((List.range n).map fun i => AV.int (i : Nat))[i]? = some x := e2
    rw [List.getElem?_map] at e2
    cases e3 : (List.range n)[i]? with
    | none => rw [e3] at e2; cases e2
    | some j =>
      rw [e3] at e2
      cases e2
      have : j = i := by
        obtain ⟨h5, h6⟩ := List.getElem?_eq_some_iff.mp e3
        rw [← h6, List.getElem_range]
      subst this
      refine ⟨.refl, g, ?_⟩
      rw [Int.zero_add]
      exact .int _, fun i H' m' l g e i1 => by rw [upto_len] at i1; exact i1⟩
theorem ai_range1 {a : Expr} {p : Pos} (hg : Gl X "range") (hm : X.mg "range" = none) (ha : AE X a te) (hs : starEach [a] X.env = [(false, eval a X.env)] := by rfl) : AI X tg (.Call (.Name "range" p) [a] [] pos) (wRange1 te) :=
  piI (pi_range1 hg hm (pa_cons ha pa_nil hs) hs) fun σ H R ⟨a, m, q, h1, h2, h3, h4⟩ => by
    refine ⟨a, m, _, h1, h2, h3, fun x m1 v H1 l1 g1 r1 q1 => ?_⟩
    cases x with
    | int j => cases r1; exact ⟨j, rfl, q1.2.1, q1.1, h4 _ _ m1 _ H1 l1 g1 (itr_s _) q1.2.2⟩
    | _ => exact q1.elim
end

def wipeA (a : ASt) : List Nat → ASt
  | [] => a
  | v :: vs => (wipeA a vs).set v none
theorem SimS.wiped {K : PySem.W.Frag} {H : Hp} {a : ASt} {σ : L2.St} (h : SimS K H a σ) : ∀ vs : List Nat, SimS K H (wipeA a vs) (L2.wipe σ vs)
  | [] => h
  | v :: vs => by
    have q := SimS.wiped h vs
    refine ⟨by show ((wipeA a vs).set v none).length = ((wipe σ vs).set v none).length; simpa using q.len, fun j y e => ?_⟩
    have e : ((wipeA a vs).set v none)[j]? = some (some y) := e
    by_cases hj : v = j
    · subst hj
      have hl : v < (wipeA a vs).length := by
        have := (List.getElem?_eq_some_iff.mp e).1
        simpa using this
      rw [List.getElem?_set_self hl] at e; cases e
    · rw [List.getElem?_set_ne hj] at e
      obtain ⟨u, h1, h2⟩ := q.get j y e
      exact ⟨u, by show ((wipe σ vs).set v none)[j]? = _; rw [List.getElem?_set_ne hj]; exact h1, h2⟩
theorem wipe_at (σ : L2.St) (i : Nat) : ∀ vs : List Nat, (wipe σ vs)[i]? = if i ∈ vs then (σ[i]?).map (fun _ => none) else σ[i]?
  | [] => by simp [wipe]
  | v :: vs => by
    have ih := wipe_at σ i vs
    show ((wipe σ vs).set v none)[i]? = _
    by_cases hv : v = i
    · subst hv
      rw [if_pos List.mem_cons_self]
      by_cases hl : v < (wipe σ vs).length
      · rw [List.getElem?_set_self hl]
        rw [wipe_length] at hl
        rw [List.getElem?_eq_getElem hl]; rfl
      · rw [List.getElem?_eq_none (by simpa using hl)]
        rw [wipe_length] at hl
        rw [List.getElem?_eq_none (by omega)]; rfl
    · rw [List.getElem?_set_ne hv, ih]
      by_cases hm : i ∈ vs
      · rw [if_pos hm, if_pos (List.mem_cons_of_mem _ hm)]
      · rw [if_neg hm, if_neg (by intro z; rcases List.mem_cons.mp z with z | z; exact hv z.symm; exact hm z)]
theorem wipe_same {σ σ' : L2.St} {sl vs : List Nat} (hsl : ∀ i ∈ sl, i ∈ vs) (hl : σ'.length = (wipe σ vs).length) (h : ∀ i : Nat, i ∉ sl → σ'[i]? = (wipe σ vs)[i]?) : wipe σ' vs = wipe σ vs := by
  apply List.ext_getElem?
  intro i
  rw [wipe_at σ' i vs]
  by_cases hm : i ∈ vs
  · rw [if_pos hm, wipe_at, if_pos hm]
    rw [wipe_length] at hl
    by_cases h1 : i < σ'.length
    · rw [List.getElem?_eq_getElem h1, List.getElem?_eq_getElem (by omega)]; rfl
    · rw [List.getElem?_eq_none (by omega), List.getElem?_eq_none (by omega)]
  · rw [if_neg hm]
    exact h i fun z => hm (hsl i z)
section
variable {X : Cx} {pos : Pos}
def lcL (K : PySem.W.Frag) (g : ATG) (tt : ATT) (te : ATE) (G : AHp → Prop) (D : Addr) (q : AK) (a : ASt) : List AV → AHp → Prop
  | [], m => G m ∧ q (.ref D) m
  | x :: xs, m => G m ∧ g x a m fun a2 m2 => tt a2 m2 fun b m3 => if b = true then te a2 m3 fun y m4 => Fg K m4 fun m5 => match m5 D with
      | some (.lst acc) => acc.length < sizeLine ∧ lcL K g tt te G D q a xs (updA m5 D (.lst (acc ++ [y])))
      | _ => False
    else Fg K m3 fun m5 => lcL K g tt te G D q a xs m5
def aLc (K : PySem.W.Frag) (w : ATI) (g : ATG) (tt : ATT) (te : ATE) (vs : List Nat) : ATE := fun a m q => w a m fun xs G m1 => ∀ D, m1 D = none → lcL K g tt te G D q (wipeA a vs) xs (updA m1 D (.lst []))
theorem lc_of {K : PySem.W.Frag} {w : ATI} {g : ATG} {tt : ATT} {te : ATE} {sl vs : List Nat} (hsl : ∀ i ∈ sl, i ∈ vs) {σ : L2.St} {H : Hp} {Q : VK} (h : clE K (aLc K w g tt te vs) σ H Q) : tLc (clI K w) (clG K sl g) (clT K tt) (clE K te) vs σ H Q := by
  obtain ⟨a, m, q, h1, h2, h3, h4⟩ := h
  refine ⟨a, m, _, h1, h2, h3, fun xs G m1 J H1 l1 g1 S q1 => fun D hD => ?_⟩
  have q1 := q1 D (g1.free hD)
  have lD : Le K H1 (upd H1 D (.lst [])) := .new hD
  refine ⟨fun i k H' => k = xs.length - i ∧ i ≤ xs.length ∧ ∃ m, Le K (upd H1 D (.lst [])) H' ∧ SimH K H' m ∧ lcL K g tt te G D q (wipeA a vs) (xs.drop i) m, ⟨xs.length, by simp, Nat.zero_le _, _, .refl, g1.new hD (o := .lst []) ⟨[], upd_same, .nil⟩, q1⟩, ?_⟩
  rintro i k H2 ⟨rfl, hi, m2, l2, g2, q2⟩
  have l12 := lD.trans l2
  have s2 : SimS K H2 (wipeA a vs) (wipe σ vs) := (h1.wiped vs).mono (l1.trans l12)
  by_cases hlt : i < xs.length
  · rw [List.drop_eq_getElem_cons hlt] at q2
    obtain ⟨gm, q2⟩ := q2
    refine .inr ⟨S.go i H2 m2 l12 g2 gm hlt, fun H' => ∃ m, Le K (upd H1 D (.lst [])) H' ∧ SimH K H' m ∧ lcL K g tt te G D q (wipeA a vs) (xs.drop (i + 1)) m, fun H' z => ⟨xs.length - (i + 1), by omega, rfl, hlt, z⟩, fun v H3 y => ?_⟩
    obtain ⟨l3, g3, r3⟩ := S.yld i H2 m2 v H3 xs[i] l12 g2 gm (List.getElem?_eq_getElem hlt) y
    refine ⟨xs[i], wipeA a vs, m2, _, r3, s2.mono l3, g3, q2, fun t4 m4 σ4 H4 l4 s4 g4 z1 z2 q4 => ⟨wipe_same hsl z1 z2, t4, m4, _, s4, g4, q4, fun b m5 H5 l5 g5 q5 => ?_⟩⟩
    cases b with
    | false =>
      rw [if_neg Bool.false_ne_true]
      rw [if_neg Bool.false_ne_true] at q5
      obtain ⟨m6, z, q5⟩ := q5
      exact ⟨m6, l2.trans (l3.trans (l4.trans l5)), z _ g5, q5⟩
    | true =>
      rw [if_pos rfl]
      rw [if_pos rfl] at q5
      refine ⟨t4, m5, _, s4.mono l5, g5, q5, fun y m6 v6 H6 l6 g6 r6 ⟨m6, z6, q6⟩ => ?_⟩
      have g6 := z6 _ g6
      dsimp only at q6
      cases e6 : m6 D with
      | none => rw [e6] at q6; exact q6.elim
      | some o =>
        rw [e6] at q6
        cases o with
        | lst acc =>
          obtain ⟨ws, f1, f2⟩ := g6 D _ e6
          have l7 : Le K H6 (upd H6 D (.lst (ws ++ [v6]))) := .lst f1
          exact ⟨ws, f1, by rw [← f2.length]; exact q6.1, _, l2.trans (l3.trans (l4.trans (l5.trans (l6.trans l7)))),
            g6.put l7 (fun b u hb e => by rw [upd_ne hb]; exact e) (.lst (acc ++ [y])) (fun b z => by rw [e6] at z; cases z) ⟨_, upd_same, (f2.append (.cons r6 .nil)).mono l7⟩, q6.2⟩
        | _ => exact q6.elim
  · have hi' : xs.length ≤ i := Nat.le_of_not_lt hlt
    rw [List.drop_eq_nil_of_le hi'] at q2
    exact .inl ⟨S.stop i H2 m2 l12 g2 q2.1 hi', h4 _ m2 _ H2 (l1.trans l12) g2 (.ref D) q2.2⟩
variable {elt tg iter : Expr} {ifs : List Expr} {scope : Scope} {own : List (Str × Nat)} {w : ATI} {sl : List Nat} {g : ATG} {tt : ATT} {te : ATE}
abbrev ATs (X : Cx) (ifs : List Expr) (t : ATT) : Prop := PTs X ifs (clT X.K t)
theorem ptsI {t u : TT} (h : PTs X ifs t) (i : ∀ σ H Q, u σ H Q → t σ H Q) : PTs X ifs u := ⟨fun pins s σ H Q I q => h.run pins s σ H Q I (i σ H Q q)⟩
def aYes : ATT := fun _ m q => q true m
theorem ats_nil : ATs X [] aYes := ptsI pts_nil fun σ H Q ⟨a, m, q, h1, h2, h3, h4⟩ => h4 true m H .refl h2 h3
theorem ats_one {c : Expr} {t : ATT} (h : AT X c t) : ATs X [c] t := pts_one h
theorem ae_lc (hc : X.calm = true) (hN : X.N.Nodup) (hi : AI X tg iter w) (ok : BlkOk X.N X.env.scope scope own)
    (hg : ∀ (s : Shared) (H : Hp) (C : Addr) (cl : List (Str × Addr)) (fp : List Addr), AG (X.blk s H scope (compEnvC scope cl C X.env) fp) tg sl g) (ht : ∀ (s : Shared) (H : Hp) (C : Addr) (cl : List (Str × Addr)) (fp : List Addr), ATs (X.blk s H scope (compEnvC scope cl C X.env) fp) ifs tt)
    (he : ∀ (s : Shared) (H : Hp) (C : Addr) (cl : List (Str × Addr)) (fp : List Addr), AE (X.blk s H scope (compEnvC scope cl C X.env) fp) elt te) (hsl : ∀ i ∈ sl, i ∈ own.map (·.2) := by decide) (hs : ∀ x, foldedSetIterable iter X.env x = pure x := by intro _; rfl) :
    AE X (.ListComp elt [⟨tg, iter, ifs, 0⟩] scope pos) (aLc X.K w g tt te (own.map (·.2))) := peI (pe_lc hc hN hi ok hg ht he hs) fun _ _ _ h => lc_of hsl h
theorem as_setLc {i : Nat} {y : Str} {py spos : Pos} (hc : X.calm = true) (hN : X.N.Nodup) (hy : X.N[i]? = some y) (hyl : X.env.scope.names.lookup y = some .local)
    (hsw : swapsWith (.ListComp elt [⟨tg, iter, ifs, 0⟩] scope pos) (some (.Name y py)) spos.line X.env = pure true) (hi : AI X tg iter w) (ok : BlkOk X.N X.env.scope scope own)
    (hg : ∀ (s : Shared) (H : Hp) (C : Addr) (cl : List (Str × Addr)) (fp : List Addr), AG (X.blk s H scope (compEnvC scope cl C X.env) fp) tg sl g) (ht : ∀ (s : Shared) (H : Hp) (C : Addr) (cl : List (Str × Addr)) (fp : List Addr), ATs (X.blk s H scope (compEnvC scope cl C X.env) fp) ifs tt)
    (he : ∀ (s : Shared) (H : Hp) (C : Addr) (cl : List (Str × Addr)) (fp : List Addr), AE (X.blk s H scope (compEnvC scope cl C X.env) fp) elt te) (hsl : ∀ i ∈ sl, i ∈ own.map (·.2) := by decide) (hs : ∀ x, foldedSetIterable iter X.env x = pure x := by intro _; rfl) :
    AS X (.Assign [.Name y py] (.ListComp elt [⟨tg, iter, ifs, 0⟩] scope pos) spos) (aAsg (aLc X.K w g tt te (own.map (·.2))) (aName i)) := psI (ps_setLc (i := i) hc hN hy hyl hsw hi ok hg ht he hs) fun D σ H ⟨a, m, d, h1, h2, h3, h4⟩ => by
  have z : clE X.K (aLc X.K w g tt te (own.map (·.2))) σ H (fun x H1 => gName i x σ H1 D.nx) := ⟨a, m, _, h1, h2, h3, fun x m1 v H1 l g1 r q => h4.nx _ m1 _ H1 l ((h1.mono l).put r i) g1 q⟩
  exact lc_of hsl z
end
end Ab

namespace Ab
open PySem PySem.Spec PyProof.Rows L2

structure FnG (P : Program) (w : World) (K : PySem.W.Frag) (mg : Str → Option Value) (base : Heap) (C : CXT) (k : Nat) (f : Addr) (fd : FuncData) (ps : List Str) (sp : Sp) : Prop where
  long : ∀ vs H Q E, sp vs H Q E → vs.length = ps.length
  go : ∀ (A : Around) (o : List Env) (s : Shared) (H : Hp) (ar : Args) (us : List Value) (vs : List V) (Q : VK) (E : XK),
    Room k A → A.guards = some [] → Env0 P w K mg base A o s H → BindsTo s fd ar (ps.zip us) → Vals vs us → sp vs H Q E →
    codeAny (model P w) A (.call (.ref f) ar) (CR C o P w H s Q E) s
theorem FnG.up {P : Program} {w : World} {K : PySem.W.Frag} {mg : Str → Option Value} {base : Heap} {C : CXT} {j k : Nat} {f : Addr} {fd : FuncData} {ps : List Str} {sp : Sp}
    (F : FnG P w K mg base C j f fd ps sp) (h : j ≤ k) : FnG P w K mg base C k f fd ps sp :=
  ⟨F.long, fun A o s H ar us vs Q E hr => F.go A o s H ar us vs Q E (hr.mono h)⟩
theorem FnG.weak {P : Program} {w : World} {K : PySem.W.Frag} {mg : Str → Option Value} {base : Heap} {C : CXT} {k : Nat} {f : Addr} {fd : FuncData} {ps : List Str} {sp sp' : Sp}
    (F : FnG P w K mg base C k f fd ps sp) (h : ∀ vs H Q E, sp' vs H Q E → sp vs H Q E) : FnG P w K mg base C k f fd ps sp' :=
  ⟨fun vs H Q E z => F.long vs H Q E (h _ _ _ _ z), fun A o s H ar us vs Q E hr hg he hb hv z => F.go A o s H ar us vs Q E hr hg he hb hv (h _ _ _ _ z)⟩

section
variable {X : Cx} {C : CXT} {k : Nat} {f : Addr} {fd : FuncData} {ps : List Str} {sp : Sp} {dvs : List V} {ds : List Value} {E : XK} {x : Str} {p pos : Pos} {e : Expr} {es : List Expr} {t : TA}
theorem callG {pins : List (Addr × Obj)} {σ : L2.St} {H : Hp} {s : Shared} {Q : VK} {us : List Value} {vs : List V}
    (F : FnG X.prog X.w X.K X.mg X.base C k f fd ps sp) (hr : Room k X.A) (hgd : X.A.guards = some []) (hb : Binds X.K fd ps ds) (hd : Vals dvs ds) (hx : Passes C X E)
    (I : Inv X pins σ H s) (r : Vals vs us) (z : sp (vs ++ dvs) H Q E) : wpAny (model X.prog X.w) X.A (call (.ref f) us) (EP X pins σ Q) X.xe s := by
  have both : Vals (vs ++ dvs) (us ++ ds) := Vals.append r hd
  have size : (us ++ ds).length = ps.length := (Vals.length both).symm.trans (F.long _ _ _ _ z)
  have run := F.go X.A X.stack s H ⟨us, []⟩ (us ++ ds) (vs ++ dvs) Q E hr hgd I.env0 (hb s us I.kIn size) both z
  refine wpAny_call (codeAny_mono run fun a s2 q => ?_)
  match a, q with
  | .error y, q => exact hx pins σ H s y s2 I q
  | .ok (.ret u), q => exact I.after q
  | .ok .next, q => exact False.elim q
  | .ok .brk, q => exact False.elim q
  | .ok .cont, q => exact False.elim q
theorem pe_callG (F : FnG X.prog X.w X.K X.mg X.base C k f fd ps sp) (hr : Room k X.A) (hgd : X.A.guards = some []) (hg : Gl X x) (hm : X.mg x = some (.ref f)) (hk : PySem.W.keepIn X.K (.ref f) = true)
    (hb : Binds X.K fd ps ds) (hd : Vals dvs ds) (hx : Passes C X E) (ha : PA X (e :: es) t) (nd : (x == ("__debug__" : Str)) = false := by decide)
    (se : starEach (e :: es) X.env = (false, eval e X.env) :: starEach es X.env := by rfl) (sp0 : (backTo pos (starEach es X.env)).any (·.1) = false := by rfl) : PE X (.Call (.Name x p) (e :: es) [] pos) (tCall sp dvs E t) :=
  ⟨fun pins s σ H Q I h => wpAny_Call_Name_kw (ld_glob I hg hm
    (PySem.W.callWith_K (h₀ := X.base) I.ok.mod.kin hk (thn (ha.run pos pins s σ H _ I h) fun us s1 ⟨vs, H1, I1, r, q⟩ => ⟨I1.kIn, callG F hr hgd hb hd hx I1 r q⟩) se sp0) nd)⟩
theorem pe_callG0 (F : FnG X.prog X.w X.K X.mg X.base C k f fd ps sp) (hr : Room k X.A) (hgd : X.A.guards = some []) (hg : Gl X x) (hm : X.mg x = some (.ref f)) (hk : PySem.W.keepIn X.K (.ref f) = true)
    (hb : Binds X.K fd ps ds) (hd : Vals dvs ds) (hx : Passes C X E) (nd : (x == ("__debug__" : Str)) = false := by decide) : PE X (.Call (.Name x p) [] [] pos) (tCall sp dvs E tNil) :=
  ⟨fun pins s σ H Q I h => wpAny_Call_Name_kw (ld_glob I hg hm (PySem.W.callWith_K0 I.kIn hk (callG (us := []) F hr hgd hb hd hx I .nil h)) nd)⟩
end

theorem bodyG {C : CXT} {P : Program} {w : World} {K : PySem.W.Frag} {mg : Str → Option Value} {base : Heap} {k : Nat} {f : Addr} {nm qual : Str} {params : Arguments} {body : List Stmt} {scope : Scope} {dV kV doc pm cdv ct oc : Value} {an od : Option Addr}
    {osl : Array (Option Value)} {N ps : List Str} {sp : Sp} (there : K.lookup f = some ⟨oc, od, .func (PySem.W.fnOf nm qual params body scope dV kV doc pm an cdv ct), osl⟩) (code : PySem.W.codeIn K cdv qual = true) (S : FnScope N ps scope)
    (long : ∀ vs H Q E, sp vs H Q E → vs.length = ps.length)
    (hb : ∀ (A : Around) (o : List Env) (s : Shared) (H : Hp) (vs : List V) (Q : VK) (E : XK), Room k (A.deeper (envOfC qual scope s.heap.objs.size f cdv)) → A.guards = some [] → sp vs H Q E →
      ∃ t, PSs (cxOf C P w K mg base N qual scope f cdv A o s H E) body t ∧ t { nx := fun _ H' => Q .non H', rt := Q } (L2.start N vs) H) :
    FnG P w K mg base C (k + 1) f (PySem.W.fnOf nm qual params body scope dV kV doc pm an cdv ct) ps sp := by
  constructor
  · exact long
  intro A o s H ar us vs Q E room gd env0 bind rel want
  have inK : K.In s.heap := env0.mod.kin.keeps fun b u z => (env0.bs b u z).1
  have free : s.heap.NoLimit := env0.mod.nolimit.keeps fun b u z => (env0.bs b u z).1
  have kinds : ∀ y ∈ ps.zip us, scope.names.lookup y.1 = some .local ∨ (scope.names.lookup y.1 = some .cell ∧ ((cellsFrom (s.heap.objs.size + 1) scope.names []).lookup y.1).isSome = true) := by
    rintro ⟨n, v⟩ hy
    cases S.par n (List.of_mem_zip hy).1 with
    | inl z => exact Or.inl z
    | inr z => exact Or.inr ⟨z, PySem.W.cellsFrom_some _ _ _ (Or.inl z)⟩
  apply codeAny_call_function room.depth (inK _ _ there) rfl S.co S.gen rfl (PySem.W.codeRec_of inK code)
  apply bind
  apply wpAny_newFunctionEnv_cells S.kind kinds
  intro env same s1 x
  subst same
  refine ⟨free.keeps x.toInCall.keep, codeAny_func ?_⟩
  obtain ⟨t, body_ok, reads⟩ := hb A o s H vs Q E (room.deeper _) gd want
  have inv := inv_start (CX := C) (E := E) (w := w) (P := P) (mg := mg) (base := base) S room.hd env0 (long _ _ _ _ want) rel x
  have fin : ∀ {σ' : L2.St} {H' : Hp} {v : V} {u : Value} {s' : Shared}, Inv (cxOf C P w K mg base N qual scope f cdv A o s H E) [] σ' H' s' → RelV v u → Q v H' → CE o P w H s Q u s' := by
    intro σ' H' v u s' J rv q
    exact ⟨v, H', J.os, J.bare, J.base, J.hok, rv, q⟩
  apply wpAny_mono (body_ok.run [] s1 (L2.start N vs) H _ inv reads)
  · intro fl s' hs
    match fl, hs with
    | .ret u, ⟨v, σ', H', J, rv, q⟩ => exact fin J rv q
    | .next, ⟨σ', H', J, q⟩ => exact fin (v := V.non) (u := Value.none) J rfl q
    | .brk, ⟨_, _, _, q⟩ => exact q.elim
    | .cont, ⟨_, _, _, q⟩ => exact q.elim
  · intro e s' hs
    exact hs

abbrev ASp := List AV → AHp → AK → Prop
def clF (K : PySem.W.Frag) (sp : ASp) : Sp := fun vs H Q _ => ∃ xs m q, SimVs K H xs vs ∧ SimH K H m ∧ sp xs m q ∧ KE K H q Q
abbrev AFn (P : Program) (w : World) (K : PySem.W.Frag) (mg : Str → Option Value) (base : Heap) (k : Nat) (f : Addr) (fd : FuncData) (ps : List Str) (sp : ASp) : Prop := FnG P w K mg base CX0 k f fd ps (clF K sp)
theorem AFn.imp {P : Program} {w : World} {K : PySem.W.Frag} {mg : Str → Option Value} {base : Heap} {k : Nat} {f : Addr} {fd : FuncData} {ps : List Str} {sp sp' : ASp}
    (F : AFn P w K mg base k f fd ps sp) (h : ∀ xs m q, sp' xs m q → sp xs m q) : AFn P w K mg base k f fd ps sp' := FnG.weak F fun _ _ _ _ ⟨xs, m, q, h1, h2, h3, h4⟩ => ⟨xs, m, q, h1, h2, h _ _ _ h3, h4⟩
def aCall (sp : ASp) (dxs : List AV) (t : ATA) : ATE := fun a m q => t a m fun xs m1 => sp (xs ++ dxs) m1 q
section
variable {X : Cx} {k : Nat} {f : Addr} {fd : FuncData} {ps : List Str} {sp : ASp} {dvs : List V} {dxs : List AV} {ds : List Value} {x : Str} {p pos : Pos} {e : Expr} {es : List Expr} {t : ATA}
theorem ae_callD (F : AFn X.prog X.w X.K X.mg X.base k f fd ps sp) (hr : Room k X.A) (hgd : X.A.guards = some []) (hg : Gl X x) (hm : X.mg x = some (.ref f)) (hk : PySem.W.keepIn X.K (.ref f) = true)
    (hb : Binds X.K fd ps ds) (hd : Vals dvs ds) (hs : ∀ H, SimVs X.K H dxs dvs) (ha : AA X (e :: es) t) (nd : (x == ("__debug__" : Str)) = false := by decide)
    (se : starEach (e :: es) X.env = (false, eval e X.env) :: starEach es X.env := by rfl) (sp0 : (backTo pos (starEach es X.env)).any (·.1) = false := by rfl) : AE X (.Call (.Name x p) (e :: es) [] pos) (aCall sp dxs t) :=
  peI (pe_callG F hr hgd hg hm hk hb hd pass0 ha nd se sp0) fun σ H Q ⟨a, m, q, h1, h2, h3, h4⟩ => ⟨a, m, _, h1, h2, h3, fun xs m1 vs H1 l g r z => ⟨xs ++ dxs, m1, q, r.append (hs H1), g, z, h4.mono l⟩⟩
theorem ae_call (F : AFn X.prog X.w X.K X.mg X.base k f fd ps sp) (hr : Room k X.A) (hgd : X.A.guards = some []) (hg : Gl X x) (hm : X.mg x = some (.ref f)) (hk : PySem.W.keepIn X.K (.ref f) = true)
    (hb : Binds X.K fd ps []) (ha : AA X (e :: es) t) (nd : (x == ("__debug__" : Str)) = false := by decide)
    (se : starEach (e :: es) X.env = (false, eval e X.env) :: starEach es X.env := by rfl) (sp0 : (backTo pos (starEach es X.env)).any (·.1) = false := by rfl) : AE X (.Call (.Name x p) (e :: es) [] pos) (aCall sp [] t) :=
  ae_callD F hr hgd hg hm hk hb .nil (fun _ => .nil) ha nd se sp0
theorem ae_call0 (F : AFn X.prog X.w X.K X.mg X.base k f fd ps sp) (hr : Room k X.A) (hgd : X.A.guards = some []) (hg : Gl X x) (hm : X.mg x = some (.ref f)) (hk : PySem.W.keepIn X.K (.ref f) = true)
    (hb : Binds X.K fd ps []) (nd : (x == ("__debug__" : Str)) = false := by decide) : AE X (.Call (.Name x p) [] [] pos) (aCall sp [] aNil) :=
  peI (pe_callG0 F hr hgd hg hm hk hb .nil pass0 nd) fun σ H Q ⟨a, m, q, h1, h2, h3, h4⟩ => ⟨[], m, q, .nil, h2, h3, h4⟩
end
abbrev Fin (K : PySem.W.Frag) (q : AK) (v : AV) (m' : AHp) : Prop := Fg K m' fun m2 => q v m2
theorem Fg.keep {K : PySem.W.Frag} {m : AHp} {p : AHp → Prop} (h : p m) : Fg K m p := ⟨m, fun _ z => z, h⟩
theorem Fg.drop {K : PySem.W.Frag} {m m2 : AHp} {p : AHp → Prop} (w : Own m2) (s : Sub m2 m) (h : p m2) : Fg K m p := ⟨m2, fun _ z => z.sub s w, h⟩
theorem Own.put {m : AHp} {p : Addr} {o : AO} (h : Own m) (hp : ∀ b, m p ≠ some (.hid b)) (no : ∀ c, o ≠ .deck c) : Own (updA m p o) := fun a c e => by
  have ha : a ≠ p := by
    rintro rfl
    rw [updA_same] at e
    cases e
    exact no _ rfl
  rw [updA_ne ha] at e
  have hc : c ≠ p := by
    rintro rfl
    exact hp _ (h a _ e)
  rw [updA_ne hc]
  exact h a c e
section
variable {K : PySem.W.Frag} {m m' : AHp} {q : AK} {v : AV} {p : Addr} {o : AO}
theorem Fin.same (h : q v m) : Fin K q v m := ⟨m, fun _ z => z, h⟩
theorem Fin.pure (w : Own m) (s : Sub m m') (h : q v m) : Fin K q v m' := ⟨m, fun _ z => z.sub s w, h⟩
theorem Fin.obj (w : Own m) (s : Sub m m') (hp : m p = none) (e : m' p = some o) (no : ∀ c, o ≠ .deck c) (h : q v (updA m p o)) : Fin K q v m' :=
  ⟨updA m p o, fun _ z => z.sub (fun a u z => by
    by_cases ha : a = p
    · subst ha
      rw [updA_same] at z
      cases z
      exact e
    · rw [updA_ne ha] at z
      exact s a u z) (w.put (fun b z => by rw [hp] at z; cases z) no), h⟩
theorem Fin.list {xs : List AV} (w : Own m) (s : Sub m m') (hp : m p = none) (e : m' p = some (.lst xs)) (h : q (.ref p) (updA m p (.lst xs))) : Fin K q (.ref p) m' := .obj w s hp e (fun c z => by cases z) h
end
theorem Sub.refl {m : AHp} : Sub m m := fun _ _ z => z
theorem Sub.trans {m m1 m2 : AHp} (a : Sub m m1) (b : Sub m1 m2) : Sub m m2 := fun c o z => b c o (a c o z)
theorem Sub.new {m m' : AHp} {p : Addr} {o : AO} (s : Sub m m') (h : m p = none) : Sub m (updA m' p o) := fun a u z => by
  have : a ≠ p := by
    rintro rfl
    rw [h] at z
    cases z
  rw [updA_ne this]
  exact s a u z
theorem Sub.none {m m' : AHp} (s : Sub m m') {p : Addr} (h : m' p = none) : m p = none := by
  cases e : m p with
  | none => rfl
  | some o =>
    rw [s p o e] at h
    cases h
def startA (N : List Str) (xs : List AV) : ASt := xs.map some ++ List.replicate (N.length - xs.length) none
theorem start_sim {K : PySem.W.Frag} {H : Hp} {N : List Str} {xs : List AV} {vs : List V} (r : SimVs K H xs vs) : SimS K H (startA N xs) (L2.start N vs) := by
  have hl := r.length
  refine ⟨by unfold startA L2.start; simp [hl], fun i x e => ?_⟩
  unfold startA at e
  unfold L2.start
  by_cases hi : i < xs.length
  · rw [List.getElem?_append_left (by simpa using hi), List.getElem?_map] at e
    cases e1 : xs[i]? with
    | none => rw [e1] at e; cases e
    | some y =>
      rw [e1] at e
      cases e
      obtain ⟨v, h1, h2⟩ := r.get e1
      exact ⟨v, by rw [List.getElem?_append_left (by rw [List.length_map]; omega), List.getElem?_map, h1]; rfl, h2⟩
  · rw [List.getElem?_append_right (by simpa using hi), List.getElem?_replicate] at e
    split at e <;> cases e
theorem okB {P : Program} {w : World} {K : PySem.W.Frag} {mg : Str → Option Value} {base : Heap} {x qual : Str} {st : Stmt} {f : Addr} {fd : FuncData} {N ps : List Str} {k : Nat} {sp : ASp} (F : Fun K x qual st f fd) (S : FnScope N ps (defScope st))
    (len : ∀ xs m q, sp xs m q → xs.length = ps.length)
    (hb : ∀ (cdv : Value) (A : Around) (o : List Env) (s : Shared) (H : Hp) (E : XK), Room k (A.deeper (envOfC qual (defScope st) s.heap.objs.size f cdv)) → A.guards = some [] →
      ∃ t, ASs (cxOf CX0 P w K mg base N qual (defScope st) f cdv A o s H E).nox (defBody st) t ∧ ∀ H xs m q, sp xs m q → SimH K H m → ∃ m1, SimH K H m1 ∧ t ⟨fun _ m' => Fin K q .non m', fun v m' => Fin K q v m', fun _ _ => False, fun _ _ => False⟩ (startA N xs) m1) : AFn P w K mg base (k + 1) f fd ps sp := by
  obtain ⟨oc, od, kV, doc, pm, an, cdv, ct, osl, rfl, lk, hcd⟩ := F.ex
  refine bodyG lk hcd S (fun vs H Q E ⟨xs, m, q, h1, _, h3, _⟩ => by rw [← h1.length]; exact len xs m q h3) fun A o s H vs Q E hr hg ⟨xs, m, q, h1, h2, h3, h4⟩ => ?_
  obtain ⟨t, ht, go⟩ := hb cdv A o s H E hr hg
  have fin : KE K H (fun v m' => Fin K q v m') Q := fun v m' u H' l g r ⟨m2, z1, z2⟩ => h4 v m2 u H' l (z1 _ g) r z2
  obtain ⟨m1, g1, z⟩ := go H xs m q h3 h2
  exact ⟨_, ht.nox, startA N xs, m1, _, start_sim h1, g1, z, ⟨fun t' m' σ' H' l s g z => fin .non m' .non H' l g .non z, fin, fun _ _ _ _ _ _ _ z => z.elim, fun _ _ _ _ _ _ _ z => z.elim⟩⟩
theorem okA {P : Program} {w : World} {K : PySem.W.Frag} {mg : Str → Option Value} {base : Heap} {x qual : Str} {st : Stmt} {f : Addr} {fd : FuncData} {N ps : List Str} {k : Nat} {sp : ASp} (F : Fun K x qual st f fd) (S : FnScope N ps (defScope st))
    (len : ∀ xs m q, sp xs m q → xs.length = ps.length)
    (hb : ∀ (cdv : Value) (A : Around) (o : List Env) (s : Shared) (H : Hp) (E : XK), Room k (A.deeper (envOfC qual (defScope st) s.heap.objs.size f cdv)) → A.guards = some [] →
      ∃ t, ASs (cxOf CX0 P w K mg base N qual (defScope st) f cdv A o s H E).nox (defBody st) t ∧ ∀ xs m q, sp xs m q → Own m → t ⟨fun _ m' => Fin K q .non m', fun v m' => Fin K q v m', fun _ _ => False, fun _ _ => False⟩ (startA N xs) m) : AFn P w K mg base (k + 1) f fd ps sp :=
  okB F S len fun cdv A o s H E hr hg => let ⟨t, ht, go⟩ := hb cdv A o s H E hr hg; ⟨t, ht, fun H xs m q h g => ⟨m, g, go xs m q h g.own⟩⟩
end Ab

set_option maxHeartbeats 1000000
namespace Ab
open PySem PySem.Spec PyProof.Rows L2

mutual
def toD : AV → PyData
  | .non => .none
  | .bl b => .bool b
  | .int i => .int i
  | .str x => .str x
  | .tup xs => .tuple (toDs xs)
  | .ref _ => .none
  | .ty _ => .none
  | .scr _ => .none
  | .raw _ => .none
def toDs : List AV → List PyData
  | [] => []
  | x :: xs => toD x :: toDs xs
end
mutual
def pureV : AV → Bool
  | .non => true
  | .bl _ => true
  | .int _ => true
  | .str _ => true
  | .tup xs => pureVs xs
  | .ref _ => false
  | .ty _ => false
  | .scr _ => false
  | .raw _ => false
def pureVs : List AV → Bool
  | [] => true
  | x :: xs => pureV x && pureVs xs
end
def eqA (x y : AV) : Bool := PyData.eqv (toD x) (toD y)
def canA (x : AV) : Bool := pureV x && (toD x).canLay0
def canAs (xs : List AV) : Bool := pureVs xs && PyData.canLayAll0 (toDs xs)
section
variable {K : PySem.W.Frag} {H : Hp}
mutual
theorem SimV.dp : ∀ {x : AV} {v : V}, SimV K H x v → pureV x = true → Dp K H v (toD x)
  | _, _, .non, _ => by simp only [toD]; exact .non
  | _, _, .bl b, _ => by simp only [toD]; exact .bl b
  | _, _, .int i, _ => by simp only [toD]; exact .int i
  | _, _, .str x, _ => by simp only [toD]; exact .str x
  | _, _, .tup h hs, p => by
    simp only [toD]
    exact .tup h.sq (SimVs.dp hs (by simpa only [pureV] using p))
  | _, _, .ref a, p => by simp [pureV] at p
  | _, _, .ty n, p => by simp [pureV] at p
  | _, _, .scr h, p => by simp [pureV] at p
  | _, _, .raw h hs, p => by simp [pureV] at p
theorem SimVs.dp : ∀ {xs : List AV} {vs : List V}, SimVs K H xs vs → pureVs xs = true → DpAll K H vs (toDs xs)
  | _, _, .nil, _ => by simp only [toDs]; exact .nil
  | _, _, .cons h hs, p => by
    simp only [toDs]
    simp only [pureVs, Bool.and_eq_true] at p
    exact .cons (SimV.dp h p.1) (SimVs.dp hs p.2)
end
end
theorem toDs_len : ∀ xs : List AV, (toDs xs).length = xs.length
  | [] => by simp only [toDs, List.length_nil]
  | x :: xs => by simp only [toDs, List.length_cons, toDs_len xs]

section
variable {X : Cx}
def bInt (g : Int → Int → AV) (C : Int → Int → Prop) : AR2 := fun x y m q => match x, y with
  | .int i, .int j => C i j ∧ q (g i j) m
  | _, _ => False
theorem ob_int {f : Value → Value → Sem Value} {C : Int → Int → Prop} {g : Int → Int → V} {g' : Int → Int → AV} (h : OpR X f (rI C g)) (hg : ∀ H i j, SimV X.K H (g' i j) (g i j)) : OpR X f (cl2 X.K (bInt g' C)) := by
  intro pins s σ H v w u1 u2 Q I r1 r2 ⟨x, y, m, q, s1, s2, g1, z, k⟩
  cases x <;> cases y <;> first | exact z.elim | skip
  cases s1; cases s2
  exact h pins s σ H _ _ u1 u2 Q I r1 r2 ⟨_, _, rfl, rfl, z.1, k _ _ _ _ .refl g1 (hg _ _ _) z.2⟩
theorem rI0_I {f : Value → Value → Sem Value} {g : Int → Int → V} (h : OpR X f (rI0 g)) : OpR X f (rI (fun _ _ => True) g) := fun pins s σ H v w u1 u2 Q I r1 r2 ⟨i, j, e1, e2, _, q⟩ => h pins s σ H v w u1 u2 Q I r1 r2 ⟨i, j, e1, e2, q⟩
def bSub : AR2 := fun x y m q => match x, y with
  | .int i, .int j => q (.int (i - j)) m
  | _, _ => False
theorem ob_sub : OpR X (binaryOp .Sub) (cl2 X.K bSub) := by
  intro pins s σ H v w u1 u2 Q I r1 r2 ⟨x, y, m, q, s1, s2, g1, z, k⟩
  cases x <;> cases y <;> first | exact z.elim | skip
  cases s1; cases s2
  exact op_sub pins s σ H _ _ u1 u2 Q I r1 r2 ⟨_, _, rfl, rfl, k _ _ _ _ .refl g1 (.int _) z⟩
theorem ob_isub : OpR X (inplaceOp .Sub) (cl2 X.K bSub) := by
  intro pins s σ H v w u1 u2 Q I r1 r2 ⟨x, y, m, q, s1, s2, g1, z, k⟩
  cases x <;> cases y <;> first | exact z.elim | skip
  cases s1; cases s2
  exact iop_sub pins s σ H _ _ u1 u2 Q I r1 r2 ⟨_, _, rfl, rfl, k _ _ _ _ .refl g1 (.int _) z⟩
abbrev bMul : AR2 := bInt (fun i j => .int (i * j)) CMul
abbrev bFdiv : AR2 := bInt (fun i j => .int (i / j)) CDiv
abbrev bMod : AR2 := bInt (fun i j => .int (i % j)) (fun _ j => 0 < j)
abbrev bPow : AR2 := bInt (fun i j => .int (i ^ j.toNat)) CPow
theorem ob_mul : OpR X (binaryOp .Mult) (cl2 X.K bMul) := ob_int op_mul fun _ _ _ => .int _
theorem ob_fdiv : OpR X (binaryOp .FloorDiv) (cl2 X.K bFdiv) := ob_int op_fdiv fun _ _ _ => .int _
theorem ob_mod : OpR X (binaryOp .Mod) (cl2 X.K bMod) := ob_int op_mod fun _ _ _ => .int _
theorem ob_pow : OpR X (binaryOp .Pow) (cl2 X.K bPow) := ob_int op_pow fun _ _ _ => .int _
abbrev bLt : AR2 := bInt (fun i j => .bl (decide (i < j))) (fun _ _ => True)
abbrev bLe : AR2 := bInt (fun i j => .bl (decide (i ≤ j))) (fun _ _ => True)
abbrev bGt : AR2 := bInt (fun i j => .bl (decide (j < i))) (fun _ _ => True)
abbrev bGe : AR2 := bInt (fun i j => .bl (decide (j ≤ i))) (fun _ _ => True)
theorem ob_lt : OpR X (compareOp .Lt) (cl2 X.K bLt) := ob_int (rI0_I op_lt) fun _ _ _ => .bl _
theorem ob_le : OpR X (compareOp .LtE) (cl2 X.K bLe) := ob_int (rI0_I op_le) fun _ _ _ => .bl _
theorem ob_gt : OpR X (compareOp .Gt) (cl2 X.K bGt) := ob_int (rI0_I op_gt) fun _ _ _ => .bl _
theorem ob_ge : OpR X (compareOp .GtE) (cl2 X.K bGe) := ob_int (rI0_I op_ge) fun _ _ _ => .bl _
def rCatF (K : PySem.W.Frag) : R2 := fun x y H Q => ∃ a b xs ys, x = .ref a ∧ y = .ref b ∧ SqT K H a xs ∧ SqT K H b ys ∧ xs.length + ys.length ≤ sizeLine ∧ (xs = [] → Q (.ref b) H) ∧ (xs ≠ [] → ys = [] → Q (.ref a) H) ∧
  (xs ≠ [] → ys ≠ [] → ∀ (p : Addr) (o : Obj), o.dict = none → H p = none → Q (.ref p) (upd H p (.frz o (.tup (xs ++ ys)))))
theorem op_catF : OpR X (binaryOp .Add) (rCatF X.K) := by
  rintro pins s σ H _ _ v u Q I rx ry ⟨a, b, xs, ys, rfl, rfl, ha, hb, hz, q0, q1, q2⟩
  cases rx
  cases ry
  obtain ⟨us, r1, p1, _⟩ := I.tuple ha
  obtain ⟨ws, r2, p2, _⟩ := I.tuple hb
  by_cases hx : xs = []
  · subst hx
    cases r1
    exact cat_tup0 p1 p2 ⟨.ref b, H, I, rfl, q0 rfl⟩
  · refine HT.cat_tup p1 p2 (fun z => hx (r1.nil_iff.mp z)) (fun z => ⟨.ref a, H, I, rfl, q1 hx (r2.nil_iff.mp z)⟩) (fun z => ?_) (by rw [← r1.length, ← r2.length]; exact hz)
    exact ⟨.ref s.heap.objs.size, _, I.laid (t' := s.toks) (fun _ _ e => Heap.get?_push_of_some _ e) (Nat.le_refl _) (ok_new (by rw [List.length_append]; exact hz) (r1.append r2)), rfl, q2 hx (fun y => z (r2.nil_iff.mpr y)) _ _ rfl (I.hok.fresh (Nat.le_refl _))⟩
def bAdd : AR2 := fun x y m q => match x, y with
  | .int i, .int j => q (.int (i + j)) m
  | .str a, .str b => a.length + b.length ≤ sizeLine ∧ q (.str (a ++ b)) m
  | .tup a, .tup b => a.length + b.length ≤ sizeLine ∧ q (.tup (a ++ b)) m
  | .ref a, .ref b => match m a, m b with
    | some (.lst xs), some (.lst ys) => xs.length + ys.length ≤ sizeLine ∧ ∀ p, m p = none → q (.ref p) (updA m p (.lst (xs ++ ys)))
    | _, _ => False
  | _, _ => False
theorem ob_add : OpR X (binaryOp .Add) (cl2 X.K bAdd) := by
  intro pins s σ H v w u1 u2 Q I r1 r2 ⟨x, y, m, q, s1, s2, g1, z, k⟩
  cases x <;> cases y <;> first | exact z.elim | skip
  · cases s1; cases s2
    exact op_add pins s σ H _ _ u1 u2 Q I r1 r2 ⟨_, _, rfl, rfl, k _ _ _ _ .refl g1 (.int _) z⟩
  · cases s1; cases s2
    exact op_add_str pins s σ H _ _ u1 u2 Q I r1 r2 ⟨_, _, rfl, rfl, z.1, k _ _ _ _ .refl g1 (.str _) z.2⟩
  · rename_i xs ys
    cases s1 with
    | tup f1 f2 =>
      cases s2 with
      | tup f3 f4 =>
        rename_i a va b vb
        have l1 := f2.length
        have l2 := f4.length
        refine op_catF pins s σ H _ _ u1 u2 Q I r1 r2 ⟨a, b, va, vb, rfl, rfl, f1.sq, f3.sq, by rw [← l1, ← l2]; exact z.1, fun e => ?_, fun _ e => ?_, fun _ _ p o ho hp => ?_⟩
        · subst e
          cases f2
          exact k _ _ _ _ .refl g1 (.tup f3 f4) z.2
        · subst e
          cases f4
          have z2 := z.2
          rw [List.append_nil] at z2
          exact k _ _ _ _ .refl g1 (.tup f1 f2) z2
        · exact k.newT g1 (f2.append f4) ho hp z.2
  · rename_i a b
    cases s1; cases s2
    have z : (match m a, m b with | some (.lst xs), some (.lst ys) => xs.length + ys.length ≤ sizeLine ∧ ∀ p, m p = none → q (.ref p) (updA m p (.lst (xs ++ ys))) | _, _ => False) := z
    split at z
    · rename_i xs ys e1 e2
      obtain ⟨va, f1, f2⟩ := g1 a _ e1
      obtain ⟨vb, f3, f4⟩ := g1 b _ e2
      have l1 := f2.length
      have l2 := f4.length
      exact op_cat pins s σ H _ _ u1 u2 Q I r1 r2 ⟨a, b, va, vb, rfl, rfl, f1, f3, by rw [← l1, ← l2]; exact z.1, fun p hp => k.newL g1 (f2.append f4) hp z.2⟩
    · exact z.elim
def bIAdd : AR2 := fun x y m q => match x, y with
  | .int i, .int j => q (.int (i + j)) m
  | .str a, .str b => a.length + b.length ≤ sizeLine ∧ q (.str (a ++ b)) m
  | _, _ => False
theorem ob_iadd : OpR X (inplaceOp .Add) (cl2 X.K bIAdd) := by
  intro pins s σ H v w u1 u2 Q I r1 r2 ⟨x, y, m, q, s1, s2, g1, z, k⟩
  cases x <;> cases y <;> first | exact z.elim | skip
  · cases s1; cases s2
    exact iop_add pins s σ H _ _ u1 u2 Q I r1 r2 ⟨_, _, rfl, rfl, k _ _ _ _ .refl g1 (.int _) z⟩
  · cases s1; cases s2
    exact iop_add_str pins s σ H _ _ u1 u2 Q I r1 r2 ⟨_, _, rfl, rfl, z.1, k _ _ _ _ .refl g1 (.str _) z.2⟩
def bNeg : AV → AHp → AK → Prop := fun x m q => match x with
  | .int i => q (.int (-i)) m
  | _ => False
theorem ub_neg : UnR X (unaryOp .USub) (cl1 X.K bNeg) := by
  intro pins s σ H v u Q I r ⟨x, m, q, s1, g, z, k⟩
  cases x <;> first | exact z.elim | skip
  cases s1
  exact un_neg pins s σ H _ u Q I r ⟨_, rfl, k _ _ _ _ .refl g (.int _) z⟩

end
section
variable {prog : Program} {w : World} {A : Around} {E : Value → Shared → Prop} {s : Shared}
theorem dict_declines (l : Addr) (es : Array DictEntry) (n : Nat) (dd : Option Addr) (sl : Array (Option Value)) (b : Str) (u : Tok) :
    Meets (Builtin.«dict.__eq__» ⟨[.ref l, .str b u], []⟩) (fun _ R s => s.heap.get? l = some { cls := .type "dict", dict := dd, data := .dict es n, slots := sl } ∧ R (.ok (.ret .notImplemented)) s) :=
  .of_wp fun prog w A R s h => by
    obtain ⟨hp, gs, dr, tk, os⟩ := s
    obtain ⟨hl, hq⟩ := h
    have f1 := F.sub_str_dict
    wp_walk using AutoSeq1.wpAny_loadPart' hl, wpAny_load hl
    exact ⟨_, rfl, hq⟩
theorem str_declines (b : Str) (u : Tok) (l : Addr) (es : Array DictEntry) (n : Nat) (dd : Option Addr) (sl : Array (Option Value)) :
    Meets (Builtin.«str.__eq__» ⟨[.str b u, .ref l], []⟩) (fun _ R s => s.heap.get? l = some { cls := .type "dict", dict := dd, data := .dict es n, slots := sl } ∧ R (.ok (.ret .notImplemented)) s) :=
  .of_wp fun prog w A R s h => by
    obtain ⟨hp, gs, dr, tk, os⟩ := s
    obtain ⟨hl, hq⟩ := h
    wp_walk using AutoSeq1.wpAny_loadPart' hl, wpAny_load hl
    exact ⟨_, rfl, hq⟩
theorem eq_dict_str {l : Addr} {o : Obj} {es : Array DictEntry} {n : Nat} {b : Str} {u : Tok} {Q : Value → Shared → Prop} (hl : s.heap.get? l = some o) (hc : o.cls = .type "dict") (hd : o.data = .dict es n) (hu : A.units < cLine) (h : Q (.bool false) s) :
    wpAny (model prog w) A (richCompare .Eq (.ref l) (.str b u)) Q E s := by
  obtain ⟨cls, dd, data, sl⟩ := o
  simp only at hc hd
  subst hc hd
  exact SeqAt.rc_eq_decline_or (k := false) ⟨_, hl, rfl⟩ (typeIs_str s b u) (by decide) F.sub_str_dict F.slot_dict_eq F.slot_str_eq_refl
    (fun _ hq => call_meets F.slot_dict_eq ⟨_, hl, rfl⟩ F.entry_dict_eq (F.args_dict_eq_2 _ _) (dict_declines l es n dd sl b u) ⟨hl, hq⟩)
    (fun _ hq => call_meets F.slot_str_eq_refl (typeIs_str s b u) F.entry_str_eq (F.args_str_eq_2 _ _) (str_declines b u l es n dd sl) ⟨hl, hq⟩)
    (fun _ hq => wpAny_of_eq (rfl : isSame (.ref l) (.str b u) = pure false) hq) (.inr hu) h
end
section
variable {X : Cx}
def bEqB (f : Bool → Bool) : AR2 := fun x y m q => match x, y with
  | .int i, .int j => q (.bl (f (decide (i = j)))) m
  | .str a, .str b => q (.bl (f (decide (a = b)))) m
  | .bl a, .bl b => q (.bl (f (decide (a = b)))) m
  | .ref a, .ref b => match m a, m b with
    | some (.lst xs), some (.lst ys) => if xs.length = ys.length then canAs xs = true ∧ canAs ys = true ∧ min (PyData.depthAll (toDs xs)) (PyData.depthAll (toDs ys)) ≤ 100 ∧ q (.bl (f (PyData.eqvAll (toDs xs) (toDs ys)))) m else q (.bl (f false)) m
    | _, _ => False
  | .ref a, .str _ => match m a with
    | some (.dK _) => f true = true ∧ q (.bl false) m
    | _ => False
  | x, y => canA x = true ∧ canA y = true ∧ min (toD x).depth (toD y).depth ≤ 100 ∧ q (.bl (f (eqA x y))) m
abbrev bEq : AR2 := bEqB id
abbrev bNe : AR2 := bEqB not
theorem eq_data {pins : List (Addr × Obj)} {s : Shared} {σ : L2.St} {H : Hp} {v w : V} {u1 u2 : Value} {x y : AV} (I : Inv X pins σ H s) (hu : X.A.units + 164 < cLine) (r1 : RelV v u1) (r2 : RelV w u2) (s1 : SimV X.K H x v) (s2 : SimV X.K H y w)
    (c1 : canA x = true) (c2 : canA y = true) (hm : min (toD x).depth (toD y).depth ≤ 100) (E : Value → Shared → Prop) (Q : Value → Shared → Prop) :
    (Q (.bool (eqA x y)) s → wpAny (model X.prog X.w) X.A (compareOp .Eq u1 u2) Q E s) ∧ (Q (.bool (!eqA x y)) s → wpAny (model X.prog X.w) X.A (compareOp .NotEq u1 u2) Q E s) := by
  unfold canA at c1 c2
  rw [Bool.and_eq_true] at c1 c2
  obtain ⟨as, d1⟩ := Dp.reads I _ v u1 (s1.dp c1.1) r1
  obtain ⟨bs, d2⟩ := Dp.reads I _ w u2 (s2.dp c2.1) r2
  exact ⟨fun h => SeqAt.compareEq_reads d1 d2 c1.2 c2.2 (by omega) h, fun h => SeqAt.compareNe_reads d1 d2 c1.2 c2.2 (by omega) h⟩
theorem eq_lists {pins : List (Addr × Obj)} {s : Shared} {σ : L2.St} {H : Hp} {a b : Addr} {m : AHp} {xs ys : List AV} (I : Inv X pins σ H s) (hu : X.A.units + 164 < cLine) (g : SimH X.K H m) (e1 : m a = some (.lst xs)) (e2 : m b = some (.lst ys))
    (E : Value → Shared → Prop) (Q : Bool → Prop) (h : if xs.length = ys.length then canAs xs = true ∧ canAs ys = true ∧ min (PyData.depthAll (toDs xs)) (PyData.depthAll (toDs ys)) ≤ 100 ∧ Q (PyData.eqvAll (toDs xs) (toDs ys)) else Q false)
    (P : Value → Shared → Prop) : ((∀ c, Q c → P (.bool c) s) → wpAny (model X.prog X.w) X.A (compareOp .Eq (.ref a) (.ref b)) P E s) ∧ ((∀ c, Q c → P (.bool (!c)) s) → wpAny (model X.prog X.w) X.A (compareOp .NotEq (.ref a) (.ref b)) P E s) := by
  obtain ⟨va, f1, f2⟩ := g a _ e1
  obtain ⟨vb, f3, f4⟩ := g b _ e2
  have l1 := f2.length
  have l2 := f4.length
  by_cases hl : xs.length = ys.length
  · rw [if_pos hl] at h
    obtain ⟨c1, c2, hm, q⟩ := h
    unfold canAs at c1 c2
    rw [Bool.and_eq_true] at c1 c2
    obtain ⟨as, d1⟩ := Dp.reads I (.list (toDs xs)) (.ref a) (.ref a) (.lst (SqL.of f1) (f2.dp c1.1)) rfl
    obtain ⟨bs, d2⟩ := Dp.reads I (.list (toDs ys)) (.ref b) (.ref b) (.lst (SqL.of f3) (f4.dp c2.1)) rfl
    have hd : X.A.units + min (PyData.list (toDs xs)).depth (PyData.list (toDs ys)).depth < cLine := by
      simp only [PyData.depth]
      omega
    have ee : PyData.eqv (.list (toDs xs)) (.list (toDs ys)) = PyData.eqvAll (toDs xs) (toDs ys) := by simp only [PyData.eqv]
    refine ⟨fun k => SeqAt.compareEq_reads d1 d2 (by simpa only [PyData.canLay0] using c1.2) (by simpa only [PyData.canLay0] using c2.2) hd (by rw [ee]; exact k _ q), fun k => SeqAt.compareNe_reads d1 d2 (by simpa only [PyData.canLay0] using c1.2) (by simpa only [PyData.canLay0] using c2.2) hd (by rw [ee]; exact k _ q)⟩
  · rw [if_neg hl] at h
    obtain ⟨its, r, p, hz⟩ := I.list (SqL.of f1)
    obtain ⟨its', r', p', hz'⟩ := I.list (SqL.of f3)
    have n1 := r.length
    have n2 := r'.length
    have hne : (its.toArray.size != its'.toArray.size) = true := by
      rw [List.size_toArray, List.size_toArray, bne_iff_ne]
      omega
    have hu' : X.A.units < cLine := by omega
    exact ⟨fun k => SeqAt.eq_list_lengthsAt p.isList p'.isList hne hu' (k _ h), fun k => SeqAt.RcNeAt.lists_lengths p.isList p'.isList hne hu' X.prog X.w E P (k _ h)⟩
theorem eqA_int (i j : Int) : eqA (.int i) (.int j) = decide (i = j) := by
  unfold eqA
  simp only [toD, PyData.eqv]
  exact Bool.beq_eq_decide_eq i j
theorem ob_eqB {f : Bool → Bool} {op : CmpOp} (hop : (op = .Eq ∧ f = id) ∨ (op = .NotEq ∧ f = not)) (hu : X.A.units + 164 < cLine) : OpR X (compareOp op) (cl2 X.K (bEqB f)) := by
  intro pins s σ H v w u1 u2 Q I r1 r2 ⟨x, y, m, q, s1, s2, g, z, k⟩
  have fin : ∀ b, q (.bl b) m → EP X pins σ Q (.bool b) s := fun b z => ⟨.bl b, H, I, rfl, k _ _ _ _ .refl g (.bl b) z⟩
  have scal : ∀ {P : Prop} [Decidable P] (a b : V), L2.scal a b = true → (decide (a = b) = decide P) → RelV a u1 → RelV b u2 → q (.bl (f (decide P))) m → wpAny (model X.prog X.w) X.A (compareOp op u1 u2) (EP X pins σ Q) X.xe s := by
    intro P _ a b sc e ra rb z
    rcases hop with ⟨rfl, rfl⟩ | ⟨rfl, rfl⟩
    · exact op_eq pins s σ H a b u1 u2 Q I ra rb ⟨sc, by rw [e]; exact k _ _ _ _ .refl g (.bl _) z⟩
    · exact op_ne pins s σ H a b u1 u2 Q I ra rb ⟨sc, by rw [e]; exact k _ _ _ _ .refl g (.bl _) z⟩
  have data : canA x = true ∧ canA y = true ∧ min (toD x).depth (toD y).depth ≤ 100 ∧ q (.bl (f (eqA x y))) m → wpAny (model X.prog X.w) X.A (compareOp op u1 u2) (EP X pins σ Q) X.xe s := by
    rintro ⟨c1, c2, hm, z⟩
    have h := eq_data I hu r1 r2 s1 s2 c1 c2 hm X.xe (EP X pins σ Q)
    rcases hop with ⟨rfl, rfl⟩ | ⟨rfl, rfl⟩
    · exact h.1 (fin _ z)
    · exact h.2 (fin _ z)
  cases x <;> cases y <;> first | exact data z | skip
  · cases s1; cases s2
    refine scal _ _ rfl ?_ r1 r2 z
    congr 1
    exact propext ⟨fun e => V.bl.inj e, fun e => congrArg V.bl e⟩
  · cases s1; cases s2
    refine scal _ _ rfl ?_ r1 r2 z
    congr 1
    exact propext ⟨fun e => V.int.inj e, fun e => congrArg V.int e⟩
  · cases s1; cases s2
    refine scal _ _ rfl ?_ r1 r2 z
    congr 1
    exact propext ⟨fun e => V.str.inj e, fun e => congrArg V.str e⟩
  · rename_i a b
    cases s1; cases s2
    cases r1
    obtain ⟨t, rfl⟩ := r2
    have z : (match m a with | some (.dK _) => f true = true ∧ q (.bl false) m | _ => False) := z
    split at z
    · rename_i kvs e1
      obtain ⟨ws, f1, f2⟩ := g a _ e1
      obtain ⟨_, _, vs, _, o, es, ep, ho, hex, hd, _⟩ := dk_of I.hok f1
      rcases hop with ⟨rfl, rfl⟩ | ⟨rfl, rfl⟩
      · exact eq_dict_str ho hex.1 hd (by omega) (fin _ z.2)
      · exact absurd z.1 (by decide)
    · exact z.elim
  · rename_i a b
    cases s1; cases s2
    cases r1; cases r2
    have z : (match m a, m b with | some (.lst xs), some (.lst ys) => (if xs.length = ys.length then canAs xs = true ∧ canAs ys = true ∧ min (PyData.depthAll (toDs xs)) (PyData.depthAll (toDs ys)) ≤ 100 ∧ q (.bl (f (PyData.eqvAll (toDs xs) (toDs ys)))) m else q (.bl (f false)) m) | _, _ => False) := z
    split at z
    · rename_i xs ys e1 e2
      have h := eq_lists (X := X) I hu g e1 e2 X.xe (fun c => q (.bl (f c)) m) z (EP X pins σ Q)
      rcases hop with ⟨rfl, rfl⟩ | ⟨rfl, rfl⟩
      · exact h.1 fun c z => fin _ z
      · exact h.2 fun c z => fin _ z
    · exact z.elim
theorem ob_eq (hu : X.A.units + 164 < cLine) : OpR X (compareOp .Eq) (cl2 X.K bEq) := ob_eqB (.inl ⟨rfl, rfl⟩) hu
theorem ob_ne (hu : X.A.units + 164 < cLine) : OpR X (compareOp .NotEq) (cl2 X.K bNe) := ob_eqB (.inr ⟨rfl, rfl⟩) hu
def bIsB (f : Bool → Bool) : AR2 := fun x y m q => match y with
  | .non => match x with
    | .non => q (.bl (f true)) m
    | .tup _ => q (.bl (f false)) m
    | .ref _ => q (.bl (f false)) m
    | .int _ => q (.bl (f false)) m
    | .str _ => q (.bl (f false)) m
    | .bl _ => q (.bl (f false)) m
    | _ => False
  | .bl b => match x with
    | .bl a => q (.bl (f (decide (a = b)))) m
    | _ => False
  | _ => False
abbrev bIs : AR2 := bIsB id
abbrev bIsNot : AR2 := bIsB not
theorem ob_isB {f : Bool → Bool} {op : CmpOp} (hop : (op = .Is ∧ f = id) ∨ (op = .IsNot ∧ f = not)) : OpR X (compareOp op) (cl2 X.K (bIsB f)) := by
  intro pins s σ H v w u1 u2 Q I r1 r2 ⟨x, y, m, q, s1, s2, g, z, k⟩
  have nn : ∀ c, decide (v = V.non) = c → w = .non → q (.bl (f c)) m → wpAny (model X.prog X.w) X.A (compareOp op u1 u2) (EP X pins σ Q) X.xe s := by
    intro c e hw z
    rcases hop with ⟨rfl, rfl⟩ | ⟨rfl, rfl⟩
    · exact op_isN pins s σ H v w u1 u2 Q I r1 r2 ⟨hw, by rw [e]; exact k _ _ _ _ .refl g (.bl _) z⟩
    · exact op_notN pins s σ H v w u1 u2 Q I r1 r2 ⟨hw, by rw [e]; exact k _ _ _ _ .refl g (.bl _) z⟩
  cases y <;> first | exact z.elim | skip
  · cases s2
    cases x <;> first | exact z.elim | skip
    all_goals (cases s1; exact nn _ (by simp) rfl z)
  · cases s2
    cases x <;> first | exact z.elim | skip
    cases s1
    rcases hop with ⟨rfl, rfl⟩ | ⟨rfl, rfl⟩
    · exact op_isBl pins s σ H _ _ u1 u2 Q I r1 r2 ⟨_, _, rfl, rfl, k _ _ _ _ .refl g (.bl _) z⟩
    · exact op_notBl pins s σ H _ _ u1 u2 Q I r1 r2 ⟨_, _, rfl, rfl, k _ _ _ _ .refl g (.bl _) z⟩
theorem ob_is : OpR X (compareOp .Is) (cl2 X.K bIs) := ob_isB (.inl ⟨rfl, rfl⟩)
theorem ob_isNot : OpR X (compareOp .IsNot) (cl2 X.K bIsNot) := ob_isB (.inr ⟨rfl, rfl⟩)

theorem at_sim {K : PySem.W.Frag} {H : Hp} {xs : List AV} {vs : List V} {i : Int} {x : AV} (h : SimVs K H xs vs) (e : atI xs i = some x) : ∃ v, atI vs i = some v ∧ SimV K H x v := by
  unfold atI at e ⊢
  rw [← h.length]
  cases q : ixN xs.length i with
  | none => rw [q] at e; cases e
  | some j =>
    rw [q] at e
    exact h.get e
def keyOf : AV → Option Key
  | .int i => some (.inl i)
  | .str x => some (.inr x)
  | _ => none
def getK (kvs : List (Key × AV)) (k : Key) : Option AV := (kvs.find? fun kv => decide (kv.1 = k)).map (·.2)
theorem getK_sim {K : PySem.W.Frag} {H : Hp} {k : Key} : ∀ {kvs : List (Key × AV)} {ws : List (Key × V)}, SimK K H kvs ws → match getK kvs k with
    | some x => ∃ v, valV ws k = some v ∧ SimV K H x v
    | none => valV ws k = none
  | _, _, .nil => rfl
  | (a, x) :: r, (b, v) :: r', .cons h hs => by
    obtain ⟨e, s⟩ := h
    have e : a = b := e
    subst e
    have ih := getK_sim (k := k) hs
    unfold getK valV at ih ⊢
    by_cases hk : a = k
    · rw [List.find?_cons_of_pos (by simp [hk]), List.find?_cons_of_pos (by simp [hk])]
      exact ⟨v, rfl, s⟩
    · rw [List.find?_cons_of_neg (by simp [hk]), List.find?_cons_of_neg (by simp [hk])]
      exact ih
theorem key_sim {K : PySem.W.Frag} {H : Hp} {x : AV} {v : V} {k : Key} (h : SimV K H x v) (e : keyOf x = some k) : v = kV k := by
  cases x <;> first | (cases e; done) | skip
  all_goals (cases h; cases e; rfl)
def bIx : AR2 := fun x y m q => match x with
  | .tup xs => match y with
    | .int i => match atI xs i with
      | some v => q v m
      | none => False
    | _ => False
  | .str z => match y with
    | .int i => match atI z.cps.toList i with
      | some c => z.length ≤ sizeLine ∧ q (.str ⟨#[c]⟩) m
      | none => False
    | _ => False
  | .ref a => match m a with
    | some (.lst xs) => match y with
      | .int i => match atI xs i with
        | some v => q v m
        | none => False
      | _ => False
    | some (.dK kvs) => match keyOf y with
      | some k => match getK kvs k with
        | some v => q v m
        | none => False
      | none => False
    | _ => False
  | _ => False
theorem tail_of {prog : Program} {w : World} {A : Around} {E : Value → Shared → Prop} {s : Shared} {value slice : Expr} {o i : Value} {T id : String} {Q : Value → Shared → Prop} (ty : s.TypeIs o T)
    (look : typeLookup (.type T) "__getitem__" = pure (some (.builtin id))) (h : wpAny (model prog w) A (getItem o i) Q E s) (plain : subscripted slice false o i = operate [o, i] (getItem o i)) : wpAny (model prog w) A (subscriptTail value slice o i) Q E s := by
  unfold subscriptTail
  apply wpAny_bind
  rw [getitemInPython_of_ne ty.not_modules]
  apply wpAny_bind
  apply wpAny_specialOf ty look
  have last : wpAny (model prog w) A (subscripted slice false o i) (fun r s3 => wpAny (model prog w) A (letTemporaryGo value o r >>= fun _ => pure r) Q E s3) E s := by
    rw [plain]
    exact wpAny_operating (wpAny_mono h (fun r s3 z => wpAny_bind (wpAny_letTemporaryGo (wpAny_pure z))) (fun _ _ z => z))
  first
    | exact wpAny_pure (wpAny_bind last)
    | exact wpAny_bind (wpAny_pure (wpAny_bind last))
    | exact wpAny_bind last
theorem ix_dict (hu : X.A.units + 1 < cLine) : IxR X (fun x y H Q => ∃ a kvs k v, x = .ref a ∧ H a = some (.dK kvs) ∧ y = kV k ∧ valV kvs k = some v ∧ Q v H) := by
  intro value slice pins s σ H x y v u Q I rx ry ⟨a, kvs, k, r, e1, e2, e3, e4, q⟩ hs
  subst e1
  subst e3
  cases rx
  have G : DGet H a (kV k) (some r) := by
    rw [← e4]
    exact DGet.k e2
  exact tail_of (dict_typeIs I G) PySem.F.slot_dict_getitem.lookup (d_getItem hu I G ry fun w' s3 I3 rw' => ⟨r, H, I3, rw', q⟩) hs
theorem ob_ix (hu : X.A.units + 164 < cLine) : IxR X (cl2 X.K bIx) := by
  intro value slice pins s σ H v w u1 u2 Q I r1 r2 ⟨x, y, m, q, s1, s2, g, z, k⟩ hs
  unfold bIx at z
  cases x with
  | str zz =>
    cases s1
    cases y with
    | int i =>
      cases s2
      cases e : atI zz.cps.toList i with
      | none => simp only [e] at z
      | some c =>
        simp only [e] at z
        exact ix_str value slice pins s σ H _ _ u1 u2 Q I r1 r2 ⟨_, _, c, rfl, rfl, z.1, e, k _ _ _ _ .refl g (.str _) z.2⟩ hs
    | _ => exact z.elim
  | tup xs =>
    cases s1 with
    | tup f1 f2 =>
      cases y with
      | int i =>
        cases s2
        cases e : atI xs i with
        | none => simp only [e] at z
        | some c =>
          simp only [e] at z
          obtain ⟨v', e', s'⟩ := at_sim f2 e
          exact ix_tup value slice pins s σ H _ _ u1 u2 Q I r1 r2 ⟨_, _, _, v', rfl, rfl, f1.sq, e', k _ _ _ _ .refl g s' z⟩ hs
      | _ => exact z.elim
  | ref a =>
    cases s1
    cases ea : m a with
    | none => simp only [ea] at z
    | some ob =>
      cases ob with
      | lst xs =>
        obtain ⟨ws, f1, f2⟩ := g a _ ea
        cases y with
        | int i =>
          cases s2
          cases e : atI xs i with
          | none => simp only [ea, e] at z
          | some c =>
            simp only [ea, e] at z
            obtain ⟨v', e', s'⟩ := at_sim f2 e
            exact ix_list value slice pins s σ H _ _ u1 u2 Q I r1 r2 ⟨_, _, _, v', rfl, rfl, SqL.of f1, e', k _ _ _ _ .refl g s' z⟩ hs
        | _ => simp only [ea] at z
      | dK kvs =>
        obtain ⟨ws, f1, f2⟩ := g a _ ea
        cases ek : keyOf y with
        | none => simp only [ea, ek] at z
        | some kk =>
          have hk := key_sim s2 ek
          subst hk
          have hg := getK_sim (k := kk) f2
          cases eg : getK kvs kk with
          | none => simp only [ea, ek, eg] at z
          | some v =>
            simp only [ea, ek, eg] at z
            simp only [eg] at hg
            obtain ⟨v', e', s'⟩ := hg
            exact ix_dict (by omega) value slice pins s σ H _ _ u1 u2 Q I r1 r2 ⟨a, ws, kk, v', rfl, f1, rfl, e', k _ _ _ _ .refl g s' z⟩ hs
      | _ => simp only [ea] at z
  | _ => exact z.elim
def cutA (xs : List AV) (lo hi : Option Int) : List AV := (xs.drop (HT.sIx xs.length 0 lo)).take (HT.sIx xs.length xs.length hi - HT.sIx xs.length 0 lo)
theorem cut_sim {K : PySem.W.Frag} {H : Hp} {xs : List AV} {vs : List V} {lo hi : Option Int} (h : SimVs K H xs vs) : SimVs K H (cutA xs lo hi) (cutV vs lo hi) := by
  unfold cutA cutV
  rw [h.length]
  exact (h.drop _).take _
theorem cut_all {xs : List V} {lo hi : Option Int} (h : HT.sIx xs.length 0 lo = 0 ∧ HT.sIx xs.length xs.length hi = xs.length) : cutV xs lo hi = xs := by
  unfold cutV
  rw [h.1, h.2, List.drop_zero, Nat.sub_zero, List.take_length]
def rSlF (K : PySem.W.Frag) : V → Option Int → Option Int → Hp → VK → Prop := fun x lo hi H Q => ∃ a xs, x = .ref a ∧ SqT K H a xs ∧ (HT.sIx xs.length 0 lo = 0 ∧ HT.sIx xs.length xs.length hi = xs.length → Q (.ref a) H) ∧
  (¬ (HT.sIx xs.length 0 lo = 0 ∧ HT.sIx xs.length xs.length hi = xs.length) → ∀ (p : Addr) (o : Obj), o.dict = none → H p = none → Q (.ref p) (upd H p (.frz o (.tup (cutV xs lo hi)))))
theorem sl_tupF : SlR X (rSlF X.K) := by
  rintro pins s σ H _ v vl vu lo hi sl Q I rx hs pl pu ⟨a, xs, rfl, hx, q1, q2⟩
  cases rx
  obtain ⟨us, r, ht, hz⟩ := I.tuple hx
  have hlen : us.toArray.size = xs.length := by rw [List.size_toArray]; exact r.length.symm
  refine ⟨"tuple", _, PyProof.Rows.slot_tuple_getitem.lookup, ht.typeIs, ?_⟩
  by_cases hw : HT.sIx xs.length 0 lo = 0 ∧ HT.sIx xs.length xs.length hi = xs.length
  · exact getItem_tuple_whole ht hs pl pu (by rw [hlen]; exact hw) ⟨.ref a, H, I, rfl, q1 hw⟩
  · refine HT.getItem_tuple_cut ht hs pl pu (by rw [hlen]; exact hw) ?_ (by rw [hlen]; exact hz)
    rw [hlen]
    exact ⟨.ref s.heap.objs.size, _, I.laid (t' := s.toks) (fun _ _ e => Heap.get?_push_of_some _ e) (Nat.le_refl _) (ok_new (Nat.le_trans (cutV_length xs lo hi) hz) ((r.drop (HT.sIx xs.length 0 lo)).take (HT.sIx xs.length xs.length hi - HT.sIx xs.length 0 lo))), rfl, q2 hw _ _ rfl (I.hok.fresh (Nat.le_refl _))⟩
def bSl : ARS := fun x lo hi m q => match x with
  | .tup xs => q (.tup (cutA xs lo hi)) m
  | .str z => z.length ≤ sizeLine ∧ q (.str (cutS z lo hi)) m
  | .ref a => match m a with
    | some (.lst xs) => ∀ p, m p = none → q (.ref p) (updA m p (.lst (cutA xs lo hi)))
    | _ => False
  | .scr ns => ∀ p, m p = none → q (.ref p) (updA m p (.lst (cutA (ns.map AV.int) lo hi)))
  | _ => False
theorem sb_sl : SlR X (clSl X.K bSl) := by
  intro pins s σ H x v vl vu lo hi sl Q I rx hs pl pu ⟨t, m, q, s1, g, z, k⟩
  cases t <;> first | exact z.elim | skip
  · cases s1
    exact sl_str pins s σ H _ v vl vu lo hi sl Q I rx hs pl pu ⟨_, rfl, z.1, k _ _ _ _ .refl g (.str _) z.2⟩
  · rename_i xs
    cases s1 with
    | tup f1 f2 =>
      refine sl_tupF pins s σ H _ v vl vu lo hi sl Q I rx hs pl pu ⟨_, _, rfl, f1.sq, fun e => ?_, fun _ p o ho hp => k.newT g (cut_sim f2) ho hp z⟩
      have e2 := cut_sim (lo := lo) (hi := hi) f2
      rw [cut_all e] at e2
      exact k _ _ _ _ .refl g (.tup f1 e2) z
  · rename_i a
    cases s1
    have z : (match m a with | some (.lst xs) => ∀ p, m p = none → q (.ref p) (updA m p (.lst (cutA xs lo hi))) | _ => False) := z
    split at z
    · rename_i xs e1
      obtain ⟨ws, f1, f2⟩ := g a _ e1
      exact sl_list pins s σ H _ v vl vu lo hi sl Q I rx hs pl pu ⟨_, _, rfl, SqL.of f1, fun p hp => k.newL g (cut_sim f2) hp z⟩
    · exact z.elim
  · rename_i ns
    cases s1 with
    | scr f1 => exact sl_list pins s σ H _ v vl vu lo hi sl Q I rx hs pl pu ⟨_, _, rfl, f1.1, fun p hp => k.newL g (cut_sim SimVs.of_ints) hp z⟩
end

section
variable {X : Cx}
theorem SimH.lstPut {K : PySem.W.Frag} {H : Hp} {m : AHp} {l : Addr} {xs ys : List AV} {ws us : List V} (g : SimH K H m) (e : m l = some (.lst xs)) (f : H l = some (.lst ws)) (r : SimVs K H ys us) : SimH K (upd H l (.lst us)) (updA m l (.lst ys)) :=
  g.put (.lst f) (fun b u hb e => by rw [upd_ne hb]; exact e) (.lst ys) (fun b z => by rw [e] at z; cases z) ⟨_, upd_same, r.mono (.lst f)⟩
def putA (kvs : List (Key × AV)) (k : Key) (v : AV) : List (Key × AV) :=
  if (kvs.any fun kv => decide (kv.1 = k)) = true then kvs.map (fun kv => if kv.1 = k then (kv.1, v) else kv) else kvs ++ [(k, v)]
theorem any_sim {K : PySem.W.Frag} {H : Hp} {k : Key} : ∀ {kvs : List (Key × AV)} {ws : List (Key × V)}, SimK K H kvs ws → (kvs.any fun kv => decide (kv.1 = k)) = (ws.any fun kv => decide (kv.1 = k))
  | _, _, .nil => rfl
  | (a, x) :: r, (b, v) :: r', .cons h hs => by
    obtain ⟨e, s⟩ := h
    have e : a = b := e
    subst e
    rw [List.any_cons, List.any_cons, any_sim hs]
theorem put_map {K : PySem.W.Frag} {H : Hp} {k : Key} {x : AV} {v : V} (r : SimV K H x v) : ∀ {kvs : List (Key × AV)} {ws : List (Key × V)}, SimK K H kvs ws → SimK K H (kvs.map fun kv => if kv.1 = k then (kv.1, x) else kv) (ws.map fun kv => if kv.1 = k then (kv.1, v) else kv)
  | _, _, .nil => .nil
  | (a, y) :: _, (b, u) :: _, .cons h hs => by
    obtain ⟨e, s⟩ := h
    have e : a = b := e
    subst e
    rw [List.map_cons, List.map_cons]
    refine .cons ?_ (put_map r hs)
    by_cases hk : a = k
    · rw [if_pos hk, if_pos hk]; exact ⟨rfl, r⟩
    · rw [if_neg hk, if_neg hk]; exact ⟨rfl, s⟩
theorem put_new {K : PySem.W.Frag} {H : Hp} {k : Key} {x : AV} {v : V} (r : SimV K H x v) : ∀ {kvs : List (Key × AV)} {ws : List (Key × V)}, SimK K H kvs ws → SimK K H (kvs ++ [(k, x)]) (ws ++ [(k, v)])
  | _, _, .nil => .cons ⟨rfl, r⟩ .nil
  | _, _, .cons h hs => .cons h (put_new r hs)
theorem putA_sim {K : PySem.W.Frag} {H : Hp} {k : Key} {x : AV} {v : V} {kvs : List (Key × AV)} {ws : List (Key × V)} (h : SimK K H kvs ws) (r : SimV K H x v) : SimK K H (putA kvs k x) (putK ws k v) := by
  unfold putA putK
  rw [any_sim h]
  split
  · exact put_map r h
  · exact put_new r h
theorem SimH.dictPut {K : PySem.W.Frag} {H : Hp} {m : AHp} {l : Addr} {xs ys : List (Key × AV)} {ws us : List (Key × V)} (g : SimH K H m) (e : m l = some (.dK xs)) (f : H l = some (.dK ws)) (r : SimK K H ys us) : SimH K (upd H l (.dK us)) (updA m l (.dK ys)) :=
  g.put (.dict f) (fun b u hb e => by rw [upd_ne hb]; exact e) (.dK ys) (fun b z => by rw [e] at z; cases z) ⟨_, upd_same, SimK.mono (.dict f) r⟩
def bSet : ATSet := fun x y z m q => match x with
  | .ref a => match m a with
    | some (.lst xs) => match y with
      | .int i => match ixN xs.length i with
        | some j => q (updA m a (.lst (xs.set j z)))
        | none => False
      | _ => False
    | some (.dK kvs) => match keyOf y with
      | some k => kvs.length < sizeLine ∧ q (updA m a (.dK (putA kvs k z)))
      | none => False
    | _ => False
  | _ => False
theorem st_set (hu : X.A.units + 164 < cLine) : PSet X (clSet X.K bSet) := by
  intro pins s σ H o i v ov iv u Q I ro ri rv ⟨x, y, z, m, q, s1, s2, s3, g, w, k⟩
  cases x with
  | ref a =>
    cases s1
    unfold bSet at w
    cases ea : m a with
    | none => simp only [ea] at w
    | some ob =>
      cases ob with
      | lst xs =>
        obtain ⟨ws, f1, f2⟩ := g a _ ea
        cases y with
        | int j =>
          cases s2
          cases ej : ixN xs.length j with
          | none => simp only [ea, ej] at w
          | some n =>
            simp only [ea, ej] at w
            exact set_list pins s σ H _ _ _ ov iv u Q I ro ri rv ⟨a, ws, j, n, rfl, rfl, f1, by rw [← f2.length]; exact ej, k _ _ (.lst f1) (g.lstPut ea f1 (f2.set s3 n)) w⟩
        | _ => simp only [ea] at w
      | dK kvs =>
        obtain ⟨ws, f1, f2⟩ := g a _ ea
        cases ek : keyOf y with
        | none => simp only [ea, ek] at w
        | some kk =>
          simp only [ea, ek] at w
          have hk := key_sim s2 ek
          subst hk
          cases ro
          have hl : kvs.length = ws.length := Paired.length f2
          exact d_setItem (by omega) I (DPut.k f1 (by rw [← hl]; exact w.1)) ri rv fun s' I' => ⟨_, I', k _ _ (.dict f1) (g.dictPut ea f1 (putA_sim f2 s3)) w.2⟩
      | _ => simp only [ea] at w
  | _ => exact w.elim

def tyL (x : AV) (m : AHp) : Prop := ∃ a xs, x = .ref a ∧ m a = some (.lst xs)
theorem tyL_V {K : PySem.W.Frag} (y : AV) (v : V) (m : AHp) (H : Hp) (g : SimH K H m) (r : SimV K H y v) (t : tyL y m) : tyV K "list" v H := by
  obtain ⟨a, xs, rfl, e⟩ := t
  cases r
  obtain ⟨ws, f1, f2⟩ := g a _ e
  exact .inl ⟨rfl, ws, SqL.of f1⟩
def bML (r : Addr → List AV → List AV → AHp → AK → Prop) : AV → List AV → AHp → AK → Prop := fun x xs m q => match x with
  | .ref a => match m a with
    | some (.lst ys) => r a ys xs m q
    | _ => False
  | _ => False
theorem bML_at {r : Addr → List AV → List AV → AHp → AK → Prop} {x : AV} {xs : List AV} {m : AHp} {q : AK} (h : bML r x xs m q) : ∃ a ys, x = .ref a ∧ m a = some (.lst ys) ∧ r a ys xs m q := by
  cases x <;> first | exact h.elim | skip
  rename_i a
  have h : (match m a with | some (.lst ys) => r a ys xs m q | _ => False) := h
  split at h
  · rename_i ys e; exact ⟨a, ys, rfl, e, h⟩
  · exact h.elim
def bAppend : AV → List AV → AHp → AK → Prop := fun x0 xs0 m0 q0 => bML (fun a ys xs m q => match xs with
  | [x] => ys.length < sizeLine ∧ q .non (updA m a (.lst (ys ++ [x])))
  | _ => False) x0 xs0 m0 q0
theorem mb_append : MtR X "list.append" (clM X.K bAppend) := by
  intro pins s σ H v vs u us Q I rv rvs ⟨x, xs, m, q, s1, s2, g, z, k⟩
  obtain ⟨a, ys, rfl, e, z⟩ := bML_at z
  match xs, s2, z with
  | [x], .cons r .nil, z =>
    cases s1
    obtain ⟨ws, f1, f2⟩ := g a _ e
    exact mt_append pins s σ H _ _ u us Q I rv rvs ⟨a, ws, _, rfl, rfl, f1, by rw [← f2.length]; exact z.1, k _ _ _ _ (.lst f1) (g.lstPut e f1 (f2.append (.cons r .nil))) .non z.2⟩
  | [], _, z => exact z.elim
  | _ :: _ :: _, _, z => exact z.elim
def bExtend : AV → List AV → AHp → AK → Prop := fun x0 xs0 m0 q0 => bML (fun a ys xs m q => match xs with
  | [.ref b] => match m b with
    | some (.lst zs) => ys.length + zs.length ≤ sizeLine ∧ q .non (updA m a (.lst (ys ++ zs)))
    | _ => False
  | _ => False) x0 xs0 m0 q0
theorem mb_extend : MtR X "list.extend" (clM X.K bExtend) := by
  intro pins s σ H v vs u us Q I rv rvs ⟨x, xs, m, q, s1, s2, g, z, k⟩
  obtain ⟨a, ys, rfl, e, z⟩ := bML_at z
  match xs, s2, z with
  | [], _, z => exact z.elim
  | y :: y2 :: yr, _, z => cases y <;> exact z.elim
  | [y], .cons r .nil, z =>
    cases y with
    | ref b =>
      cases r
      cases s1
      have z : (match m b with | some (.lst zs) => ys.length + zs.length ≤ sizeLine ∧ q .non (updA m a (.lst (ys ++ zs))) | _ => False) := z
      split at z
      · rename_i zs e2
        obtain ⟨ws, f1, f2⟩ := g a _ e
        obtain ⟨ws', f3, f4⟩ := g b _ e2
        exact mt_extend pins s σ H _ _ u us Q I rv rvs ⟨a, b, ws, ws', rfl, rfl, f1, f3, by rw [← f2.length, ← f4.length]; exact z.1, k _ _ _ _ (.lst f1) (g.lstPut e f1 (f2.append f4)) .non z.2⟩
      · exact z.elim
    | _ => exact z.elim
def bPop : AV → List AV → AHp → AK → Prop := fun x0 xs0 m0 q0 => bML (fun a ys xs m q => match xs with
  | [] => match ys.getLast? with
    | some y => q y (updA m a (.lst ys.dropLast))
    | none => False
  | [.int i] => match ixN ys.length i with
    | some j => match ys[j]? with
      | some y => -(2 ^ 63) ≤ i ∧ i < 2 ^ 63 ∧ q y (updA m a (.lst (ys.eraseIdx j)))
      | none => False
    | none => False
  | _ => False) x0 xs0 m0 q0
theorem SimVs.dropLast {K : PySem.W.Frag} {H : Hp} : ∀ {xs : List AV} {vs : List V}, SimVs K H xs vs → SimVs K H xs.dropLast vs.dropLast
  | _, _, .nil => .nil
  | _, _, .cons _ .nil => .nil
  | _, _, .cons h (.cons h2 hs) => .cons h (SimVs.dropLast (.cons h2 hs))
theorem mb_pop : MtR X "list.pop" (clM X.K bPop) := by
  intro pins s σ H v vs u us Q I rv rvs ⟨x, xs, m, q, s1, s2, g, z, k⟩
  obtain ⟨a, ys, rfl, e, z⟩ := bML_at z
  obtain ⟨ws, f1, f2⟩ := g a _ e
  cases s1
  match xs, s2, z with
  | [], .nil, z =>
    have z : (match ys.getLast? with | some y => q y (updA m a (.lst ys.dropLast)) | none => False) := z
    split at z
    · rename_i y e2
      rw [List.getLast?_eq_getElem?] at e2
      obtain ⟨w, g1, g2⟩ := f2.get e2
      exact mt_pop pins s σ H _ _ u us Q I rv rvs ⟨a, ws, w, rfl, rfl, f1, by rw [← f2.length]; exact g1, k _ _ _ _ (.lst f1) (g.lstPut e f1 f2.dropLast) (g2.mono (.lst f1)) z⟩
    · exact z.elim
  | [y], .cons r .nil, z =>
    cases y with
    | int i =>
      cases r
      have z : (match ixN ys.length i with | some j => (match ys[j]? with | some y => -(2 ^ 63) ≤ i ∧ i < 2 ^ 63 ∧ q y (updA m a (.lst (ys.eraseIdx j))) | none => False) | none => False) := z
      split at z
      · rename_i j e2
        split at z
        · rename_i y e3
          obtain ⟨w, g1, g2⟩ := f2.get e3
          exact mt_popAt pins s σ H _ _ u us Q I rv rvs ⟨a, ws, i, j, w, rfl, rfl, f1, z.1, z.2.1, by rw [← f2.length]; exact (ixN_seq e2).1, g1, k _ _ _ _ (.lst f1) (g.lstPut e f1 (f2.erase j)) (g2.mono (.lst f1)) z.2.2⟩
        · exact z.elim
      · exact z.elim
    | _ => exact z.elim
  | y :: y2 :: yr, _, z => cases y <;> exact z.elim
def bInsert : AV → List AV → AHp → AK → Prop := fun x0 xs0 m0 q0 => bML (fun a ys xs m q => match xs with
  | [.int i, y] => ys.length < sizeLine ∧ 0 ≤ i ∧ i < 2 ^ 63 ∧ q .non (updA m a (.lst (ys.take i.toNat ++ [y] ++ ys.drop i.toNat)))
  | _ => False) x0 xs0 m0 q0
theorem mb_insert : MtR X "list.insert" (clM X.K bInsert) := by
  intro pins s σ H v vs u us Q I rv rvs ⟨x, xs, m, q, s1, s2, g, z, k⟩
  obtain ⟨a, ys, rfl, e, z⟩ := bML_at z
  obtain ⟨ws, f1, f2⟩ := g a _ e
  cases s1
  match xs, s2, z with
  | [], _, z => exact z.elim
  | [y], _, z => cases y <;> exact z.elim
  | y :: y2 :: y3 :: yr, _, z => cases y <;> exact z.elim
  | [x, y], .cons r1 (.cons r2 .nil), z =>
    cases x with
    | int i =>
      cases r1
      exact mt_insert pins s σ H _ _ u us Q I rv rvs ⟨a, ws, i, _, rfl, rfl, f1, by rw [← f2.length]; exact z.1, z.2.1, z.2.2.1, k _ _ _ _ (.lst f1) (g.lstPut e f1 (((f2.take _).append (.cons r2 .nil)).append (f2.drop _))) .non z.2.2.2⟩
    | _ => exact z.elim
variable {o e : Expr} {es : List Expr} {to : ATE} {tes : ATA} {apos cpos : Pos}
theorem ae_append (ho : AE X o to) (ha : AA X [e] tes) (h : ∀ t u, PE X o t → PA X [e] u → PE X (.Call (.Attribute o "append" apos) [e] [] cpos) (tBM X.K "list" (clM X.K bAppend) t u) := by
    exact fun _ _ a b => pe_bm PySem.F.plainAttrs_list PySem.F.slot_list_append PySem.F.type_list_append mb_append a b) : AE X (.Call (.Attribute o "append" apos) [e] [] cpos) (aBM tyL bAppend to tes) :=
  ae_bm (id := "list.append") (T := "list") PySem.F.plainAttrs_list PySem.F.slot_list_append PySem.F.type_list_append mb_append tyL_V ho ha h
theorem ae_extend (ho : AE X o to) (ha : AA X [e] tes) (h : ∀ t u, PE X o t → PA X [e] u → PE X (.Call (.Attribute o "extend" apos) [e] [] cpos) (tBM X.K "list" (clM X.K bExtend) t u) := by
    exact fun _ _ a b => pe_bm PySem.F.plainAttrs_list PySem.F.slot_list_extend PySem.F.type_list_extend mb_extend a b) : AE X (.Call (.Attribute o "extend" apos) [e] [] cpos) (aBM tyL bExtend to tes) :=
  ae_bm (id := "list.extend") (T := "list") PySem.F.plainAttrs_list PySem.F.slot_list_extend PySem.F.type_list_extend mb_extend tyL_V ho ha h
theorem ae_popAt (ho : AE X o to) (ha : AA X [e] tes) (h : ∀ t u, PE X o t → PA X [e] u → PE X (.Call (.Attribute o "pop" apos) [e] [] cpos) (tBM X.K "list" (clM X.K bPop) t u) := by
    exact fun _ _ a b => pe_bm PySem.F.plainAttrs_list PySem.F.slot_list_pop PySem.F.type_list_pop mb_pop a b) : AE X (.Call (.Attribute o "pop" apos) [e] [] cpos) (aBM tyL bPop to tes) :=
  ae_bm (id := "list.pop") (T := "list") PySem.F.plainAttrs_list PySem.F.slot_list_pop PySem.F.type_list_pop mb_pop tyL_V ho ha h
theorem ae_pop (ho : AE X o to) (h : ∀ t, PE X o t → PE X (.Call (.Attribute o "pop" apos) [] [] cpos) (tBM0 X.K "list" (clM X.K bPop) t) := by
    exact fun _ a => pe_bm0 PySem.F.plainAttrs_list PySem.F.slot_list_pop PySem.F.type_list_pop mb_pop a) : AE X (.Call (.Attribute o "pop" apos) [] [] cpos) (aBM tyL bPop to aNil) :=
  ae_bm0 (T := "list") tyL_V ho h
theorem ae_insert {e2 : Expr} (ho : AE X o to) (ha : AA X [e, e2] tes) (h : ∀ t u, PE X o t → PA X [e, e2] u → PE X (.Call (.Attribute o "insert" apos) [e, e2] [] cpos) (tBM X.K "list" (clM X.K bInsert) t u) := by
    exact fun _ _ a b => pe_bm PySem.F.plainAttrs_list PySem.F.slot_list_insert PySem.F.type_list_insert mb_insert a b) : AE X (.Call (.Attribute o "insert" apos) [e, e2] [] cpos) (aBM tyL bInsert to tes) :=
  ae_bm (id := "list.insert") (T := "list") PySem.F.plainAttrs_list PySem.F.slot_list_insert PySem.F.type_list_insert mb_insert tyL_V ho ha h
end
end Ab

namespace Ab
open PySem PySem.Spec PyProof.Rows L2

section
variable {X : Cx}
def bInB (f : Bool → Bool) : AR2 := fun x y m q => match y with
  | .str z => match x with
    | .str s => match s.cps.toList with
      | [c] => q (.bl (f (decide (c ∈ z.cps.toList)))) m
      | _ => False
    | _ => False
  | .tup xs => canA x = true ∧ canAs xs = true ∧ min (PyData.depthAll (toDs xs)) (toD x).depth ≤ 100 ∧ q (.bl (f (xs.any fun z => eqA z x))) m
  | .ref a => match m a with
    | some (.lst xs) => canA x = true ∧ canAs xs = true ∧ min (PyData.depthAll (toDs xs)) (toD x).depth ≤ 100 ∧ q (.bl (f (xs.any fun z => eqA z x))) m
    | some (.dK kvs) => match keyOf x with
      | some k => q (.bl (f (getK kvs k).isSome)) m
      | none => False
    | _ => False
  | _ => False
abbrev bIn : AR2 := bInB id
abbrev bNotIn : AR2 := bInB not
theorem any_D (x : AV) : ∀ xs : List AV, ((toDs xs).any fun z => PyData.eqv z (toD x)) = xs.any fun z => eqA z x
  | [] => by simp [toDs]
  | y :: ys => by
    simp only [toDs, List.any_cons, any_D x ys]
    rfl
theorem ob_inB {f : Bool → Bool} {op : CmpOp} (hop : (op = .In ∧ f = id) ∨ (op = .NotIn ∧ f = not)) (hu : X.A.units + 164 < cLine) : OpR X (compareOp op) (cl2 X.K (bInB f)) := by
  intro pins s σ H v w u1 u2 Q I r1 r2 ⟨x, y, m, q, s1, s2, g, z, k⟩
  have fin : ∀ b, q (.bl b) m → EP X pins σ Q (.bool b) s := fun b z => ⟨.bl b, H, I, rfl, k _ _ _ _ .refl g (.bl b) z⟩
  unfold bInB at z
  cases y with
  | str zz =>
    cases s2
    cases x with
    | str ss =>
      cases s1
      have hc : ∃ c, ss = ⟨#[c]⟩ ∧ q (.bl (f (decide (c ∈ zz.cps.toList)))) m := by
        cases e : ss.cps.toList with
        | nil => simp only [e] at z
        | cons c r =>
          cases r with
          | nil =>
            simp only [e] at z
            refine ⟨c, ?_, z⟩
            cases ss
            congr 1
            exact Array.ext' (by simpa using e)
          | cons d r => simp only [e] at z
      obtain ⟨c, rfl, z⟩ := hc
      rcases hop with ⟨rfl, rfl⟩ | ⟨rfl, rfl⟩
      · exact op_in_sign pins s σ H _ _ u1 u2 Q I r1 r2 ⟨c, zz, rfl, rfl, k _ _ _ _ .refl g (.bl _) z⟩
      · exact op_notIn_sign pins s σ H _ _ u1 u2 Q I r1 r2 ⟨c, zz, rfl, rfl, k _ _ _ _ .refl g (.bl _) z⟩
    | _ => exact z.elim
  | tup xs =>
    cases s2 with
    | tup f1 f2 =>
      obtain ⟨c1, c2, hm, z⟩ := z
      unfold canA at c1
      unfold canAs at c2
      rw [Bool.and_eq_true] at c1 c2
      obtain ⟨as, d1⟩ := Dp.reads I _ v u1 (s1.dp c1.1) r1
      obtain ⟨bs, d2⟩ := Dp.reads I (.tuple (toDs xs)) _ u2 (.tup f1.sq (f2.dp c2.1)) r2
      rcases hop with ⟨rfl, rfl⟩ | ⟨rfl, rfl⟩
      · exact SeqAt.in_tuple_reads d2 d1 c2.2 c1.2 (by omega) (by rw [any_D]; exact fin _ z)
      · exact SeqAt.notIn_tuple_reads d2 d1 c2.2 c1.2 (by omega) (by rw [any_D]; exact fin _ z)
  | ref a =>
    cases s2
    cases ea : m a with
    | none => simp only [ea] at z
    | some ob =>
      cases ob with
      | lst xs =>
        simp only [ea] at z
        obtain ⟨ws, f1, f2⟩ := g a _ ea
        obtain ⟨c1, c2, hm, z⟩ := z
        unfold canA at c1
        unfold canAs at c2
        rw [Bool.and_eq_true] at c1 c2
        obtain ⟨as, d1⟩ := Dp.reads I _ v u1 (s1.dp c1.1) r1
        obtain ⟨bs, d2⟩ := Dp.reads I (.list (toDs xs)) _ u2 (.lst (SqL.of f1) (f2.dp c2.1)) r2
        rcases hop with ⟨rfl, rfl⟩ | ⟨rfl, rfl⟩
        · exact SeqAt.in_list_reads d2 d1 c2.2 c1.2 (by omega) (by rw [any_D]; exact fin _ z)
        · exact SeqAt.notIn_list_reads d2 d1 c2.2 c1.2 (by omega) (by rw [any_D]; exact fin _ z)
      | dK kvs =>
        obtain ⟨ws, f1, f2⟩ := g a _ ea
        cases ek : keyOf x with
        | none => simp only [ea, ek] at z
        | some kk =>
          simp only [ea, ek] at z
          have hk := key_sim s1 ek
          subst hk
          have hg := getK_sim (k := kk) f2
          have hs : (valV ws kk).isSome = (getK kvs kk).isSome := by
            cases eg : getK kvs kk with
            | none => simp only [eg] at hg; rw [hg]; rfl
            | some v => simp only [eg] at hg; obtain ⟨v', e', _⟩ := hg; rw [e']; rfl
          cases r2
          rcases hop with ⟨rfl, rfl⟩ | ⟨rfl, rfl⟩
          · exact d_in (by omega) I (DGet.k f1) r1 fun s' I' => ⟨.bl _, H, I', by rw [hs]; rfl, k _ _ _ _ .refl g (.bl _) z⟩
          · exact d_notIn (by omega) I (DGet.k f1) r1 fun s' I' => ⟨.bl _, H, I', by rw [hs]; rfl, k _ _ _ _ .refl g (.bl _) z⟩
      | _ => simp only [ea] at z
  | _ => exact z.elim
theorem ob_in (hu : X.A.units + 164 < cLine) : OpR X (compareOp .In) (cl2 X.K bIn) := ob_inB (.inl ⟨rfl, rfl⟩) hu
theorem ob_notIn (hu : X.A.units + 164 < cLine) : OpR X (compareOp .NotIn) (cl2 X.K bNotIn) := ob_inB (.inr ⟨rfl, rfl⟩) hu

abbrev AL := List AV → AHp → AK → Prop
def one (r : AV → AHp → AK → Prop) : AL := fun xs m q => match xs with
  | [x] => r x m q
  | _ => False
theorem one_at {r : AV → AHp → AK → Prop} {xs : List AV} {m : AHp} {q : AK} (h : one r xs m q) : ∃ x, xs = [x] ∧ r x m q := by
  match xs, h with
  | [x], h => exact ⟨x, rfl, h⟩
  | [], h => exact h.elim
  | _ :: _ :: _, h => exact h.elim
theorem cr_one {f : Value} {r : AV → AHp → AK → Prop} (h : ∀ pins s σ H v Q x m q us, Inv X pins σ H s → Vals [v] us → SimV X.K H x v → SimH X.K H m → r x m q → KE X.K H q Q → wpAny (model X.prog X.w) X.A (call f us) (EP X pins σ Q) X.xe s) : CallR X f (clL X.K (one r)) := by
  intro pins s σ H vs us Q I rv ⟨xs, m, q, s1, g, z, k⟩
  obtain ⟨x, rfl, z⟩ := one_at z
  cases s1 with
  | cons r1 rr =>
    cases rr
    exact h pins s σ H _ Q x m q us I rv r1 g z k
def bLen : AL := fun xs0 m0 q0 => one (fun x m q => match x with
  | .str z => z.length ≤ sizeLine ∧ q (.int z.length) m
  | .tup xs => q (.int xs.length) m
  | .ref a => match m a with
    | some (.lst xs) => q (.int xs.length) m
    | some (.dK kvs) => q (.int kvs.length) m
    | _ => False
  | _ => False) xs0 m0 q0
theorem cb_len : CallR X (.builtin "len") (clL X.K bLen) := cr_one fun pins s σ H v Q x m q us I rv s1 g z k => by
  cases x with
  | str zz => cases s1; exact call_len pins s σ H _ us Q I rv ⟨_, _, rfl, ⟨z.1, rfl⟩, k _ _ _ _ .refl g (.int _) z.2⟩
  | tup xs =>
    cases s1 with
    | tup f1 f2 => exact call_len_seq pins s σ H _ us Q I rv ⟨_, _, rfl, .inr f1.sq, by rw [← f2.length]; exact k _ _ _ _ .refl g (.int _) z⟩
  | ref a =>
    cases s1
    cases ea : m a with
    | none => simp only [ea] at z
    | some ob =>
      cases ob with
      | lst xs =>
        simp only [ea] at z
        obtain ⟨ws, f1, f2⟩ := g a _ ea
        exact call_len_seq pins s σ H _ us Q I rv ⟨_, _, rfl, .inl (SqL.of f1), by rw [← f2.length]; exact k _ _ _ _ .refl g (.int _) z⟩
      | dK kvs =>
        simp only [ea] at z
        obtain ⟨ws, f1, f2⟩ := g a _ ea
        have hl : kvs.length = ws.length := Paired.length f2
        exact call_lenD pins s σ H _ us Q I rv ⟨_, _, rfl, f1, by rw [← hl]; exact k _ _ _ _ .refl g (.int _) z⟩
      | _ => simp only [ea] at z
  | _ => exact z.elim
def kA : Key → AV
  | .inl i => .int i
  | .inr x => .str x
theorem keys_sim {K : PySem.W.Frag} {H : Hp} : ∀ {kvs : List (Key × AV)} {ws : List (Key × V)}, SimK K H kvs ws → SimVs K H (kvs.map fun kv => kA kv.1) (ws.map fun kv => kV kv.1)
  | _, _, .nil => .nil
  | (a, x) :: r, (b, v) :: r', .cons h hs => by
    obtain ⟨e, s⟩ := h
    have e : a = b := e
    subst e
    refine .cons ?_ (keys_sim hs)
    cases a
    · exact .int _
    · exact .str _
def bList : AL := fun xs0 m0 q0 => one (fun x m q => match x with
  | .tup xs => ∀ p, m p = none → q (.ref p) (updA m p (.lst xs))
  | .scr ns => ∀ p, m p = none → q (.ref p) (updA m p (.lst (ns.map AV.int)))
  | .ref a => match m a with
    | some (.lst xs) => ∀ p, m p = none → q (.ref p) (updA m p (.lst xs))
    | some (.dK kvs) => ∀ p, m p = none → q (.ref p) (updA m p (.lst (kvs.map fun kv => kA kv.1)))
    | _ => False
  | _ => False) xs0 m0 q0
theorem cb_list (hc : X.calm = true) : CallR X (.type "list") (clL X.K bList) := cr_one fun pins s σ H v Q x m q us I rv s1 g z k => by
  cases x with
  | tup xs =>
    cases s1 with
    | tup f1 f2 => exact call_list_of pins s σ H _ us Q I rv ⟨_, _, rfl, .inr f1.sq, fun p hp => k.newL g f2 hp z⟩
  | scr ns =>
    cases s1 with
    | scr f1 => exact call_list_of pins s σ H _ us Q I rv ⟨_, _, rfl, .inl f1.1, fun p hp => k.newL g SimVs.of_ints hp z⟩
  | ref a =>
    cases s1
    cases ea : m a with
    | none => simp only [ea] at z
    | some ob =>
      cases ob with
      | lst xs =>
        simp only [ea] at z
        obtain ⟨ws, f1, f2⟩ := g a _ ea
        exact call_list_of pins s σ H _ us Q I rv ⟨_, _, rfl, .inl (SqL.of f1), fun p hp => k.newL g f2 hp z⟩
      | dK kvs =>
        simp only [ea] at z
        obtain ⟨ws, f1, f2⟩ := g a _ ea
        exact call_list_dK hc pins s σ H _ us Q I rv ⟨_, _, rfl, f1, fun p hp => k.newL g (keys_sim f2) hp z⟩
      | _ => simp only [ea] at z
  | _ => exact z.elim
def bTuple : AL := fun xs0 m0 q0 => one (fun x m q => match x with
  | .tup xs => q (.tup xs) m
  | .ref a => match m a with
    | some (.lst xs) => q (.tup xs) m
    | _ => False
  | _ => False) xs0 m0 q0
theorem call_tupleF : CallR X (.type "tuple") (fun xs H Q => ∃ p ys, xs = [.ref p] ∧ SqL X.K H p ys ∧ ∀ (l : Addr) (o : Obj), o.dict = none → H l = none → Q (.ref l) (L2.upd H l (.frz o (.tup ys)))) := by
  rintro pins s σ H _ us Q I r ⟨p, ys, rfl, hq, q⟩
  obtain ⟨u, rfl, rx⟩ := vals1 r
  cases rx
  obtain ⟨its, r', pl, hz⟩ := I.list hq
  have hlen := r'.length
  refine call_tuple_list pl.isList (fun h' kp => ?_) (by simp only [List.size_toArray] <;> omega)
  have I1 : Inv X pins σ H { s with heap := h' } := I.kept (t' := s.toks) kp
  exact ⟨.ref h'.objs.size, _, I1.laid (t' := s.toks) (fun _ _ e => Heap.get?_push_of_some _ e) (Nat.le_refl _) (ok_new hz r'), rfl, q _ _ rfl (I1.hok.fresh (Nat.le_refl _))⟩
theorem cb_tuple : CallR X (.type "tuple") (clL X.K bTuple) := cr_one fun pins s σ H v Q x m q us I rv s1 g z k => by
  cases x with
  | tup xs =>
    cases s1 with
    | tup f1 f2 => exact call_tuple_of pins s σ H _ us Q I rv ⟨_, _, rfl, .inr ⟨f1.sq, k _ _ _ _ .refl g (.tup f1 f2) z⟩⟩
  | ref a =>
    cases s1
    cases ea : m a with
    | none => simp only [ea] at z
    | some ob =>
      cases ob with
      | lst xs =>
        simp only [ea] at z
        obtain ⟨ws, f1, f2⟩ := g a _ ea
        exact call_tupleF pins s σ H _ us Q I rv ⟨_, _, rfl, SqL.of f1, fun p o ho hp => k.newT g f2 ho hp z⟩
      | _ => simp only [ea] at z
  | _ => exact z.elim
def asInts : List AV → Option (List Int)
  | [] => some []
  | .int i :: r => (asInts r).map (i :: ·)
  | _ => none
theorem asInts_eq : ∀ {xs : List AV} {ns : List Int}, asInts xs = some ns → xs = ns.map AV.int
  | [], ns, h => by cases h; rfl
  | x :: r, ns, h => by
    cases x with
    | int i =>
      unfold asInts at h
      cases e : asInts r with
      | none => rw [e] at h; cases h
      | some l =>
        rw [e] at h
        cases h
        rw [asInts_eq e]
        rfl
    | _ => cases h
theorem asInts_map : ∀ ns : List Int, asInts (ns.map AV.int) = some ns
  | [] => rfl
  | n :: ns => by
    show (asInts (ns.map AV.int)).map (n :: ·) = _
    rw [asInts_map ns]
    rfl
def bSum : AL := fun xs0 m0 q0 => one (fun x m q => match x with
  | .ref a => match m a with
    | some (.lst xs) => match asInts xs with
      | some ns => q (.int ns.sum) m
      | none => False
    | _ => False
  | _ => False) xs0 m0 q0
theorem cb_sum (hc : X.calm = true) : CallR X (.builtin "sum") (clL X.K bSum) := cr_one fun pins s σ H v Q x m q us I rv s1 g z k => by
  cases x with
  | ref a =>
    cases s1
    cases ea : m a with
    | none => simp only [ea] at z
    | some ob =>
      cases ob with
      | lst xs =>
        obtain ⟨ws, f1, f2⟩ := g a _ ea
        cases en : asInts xs with
        | none => simp only [ea, en] at z
        | some ns =>
          simp only [ea, en] at z
          rw [asInts_eq en] at f2
          have e := SimVs.ints f2
          subst e
          exact cr_sum hc pins s σ H _ us Q I rv ⟨_, ns, rfl, SqL.of f1, k _ _ _ _ .refl g (.int _) z⟩
      | _ => simp only [ea] at z
  | _ => exact z.elim
def bToInt : AL := fun xs0 m0 q0 => one (fun x m q => match x with
  | .int i => q (.int i) m
  | .bl b => q (.int (if b then 1 else 0)) m
  | _ => False) xs0 m0 q0
theorem cb_int : CallR X (.type "int") (clL X.K bToInt) := cr_one fun pins s σ H v Q x m q us I rv s1 g z k => by
  cases x with
  | int i => cases s1; exact call_int1 pins s σ H _ us Q I rv (.inl ⟨_, rfl, k _ _ _ _ .refl g (.int _) z⟩)
  | bl b => cases s1; exact call_int1 pins s σ H _ us Q I rv (.inr ⟨_, rfl, k _ _ _ _ .refl g (.int _) z⟩)
  | _ => exact z.elim
def tyA (x : AV) (m : AHp) : Option String := match x with
  | .non => some "NoneType"
  | .bl _ => some "bool"
  | .int _ => some "int"
  | .str _ => some "str"
  | .tup _ => some "tuple"
  | .ref a => match m a with
    | some (.lst _) => some "list"
    | some (.dK _) => some "dict"
    | _ => none
  | _ => none
def tyNames : List String := ["NoneType", "bool", "int", "str", "tuple", "list", "dict"]
def isTy (a b : String) : Bool := a == b || (a == "bool" && b == "int")
theorem kits : (tyNames.all fun a => tyNames.all fun b => b == "NoneType" || (kitB a b == some (isTy a b))) = true := by decide +kernel
theorem kit_at {a b : String} (ha : a ∈ tyNames) (hb : b ∈ tyNames) (hn : b ≠ "NoneType") : kitB a b = some (isTy a b) := by
  have h := List.all_eq_true.mp kits a ha
  have h := List.all_eq_true.mp h b hb
  rw [Bool.or_eq_true] at h
  rcases h with h | h
  · exact absurd (eq_of_beq h) hn
  · exact eq_of_beq h
theorem tyX_of {K : PySem.W.Frag} {H : Hp} {m : AHp} {x : AV} {v : V} {a : String} (g : SimH K H m) (r : SimV K H x v) (e : tyA x m = some a) : TyX K H v (.type a) ∧ a ∈ tyNames := by
  cases x with
  | non => cases r; cases e; exact ⟨.base .non, by decide⟩
  | bl b => cases r; cases e; exact ⟨.base (.bl b), by decide⟩
  | int i => cases r; cases e; exact ⟨.base (.int i), by decide⟩
  | str i => cases r; cases e; exact ⟨.base (.str i), by decide⟩
  | tup xs =>
    cases r with
    | tup f1 f2 =>
      cases e
      refine ⟨?_, by decide⟩
      have f1 := f1.sq
      rcases f1 with (f1 | ⟨o, f1⟩) | ⟨o, its, n, f1, f3, _⟩
      · exact .base (.tup f1)
      · exact .fTuple f1
      · exact .kTuple f1 f3
  | ref a =>
    cases r
    unfold tyA at e
    cases ea : m a with
    | none => simp only [ea] at e; cases e
    | some ob =>
      cases ob with
      | lst xs =>
        simp only [ea] at e
        cases e
        obtain ⟨ws, f1, f2⟩ := g a _ ea
        exact ⟨.base (.lst f1), by decide⟩
      | dK xs =>
        simp only [ea] at e
        cases e
        obtain ⟨ws, f1, f2⟩ := g a _ ea
        exact ⟨.base (.dK f1), by decide⟩
      | _ => simp only [ea] at e; cases e
  | _ => cases e
def bIsi : AL := fun xs m q => match xs with
  | [x, .ty b] => match tyA x m with
    | some a => (tyNames.contains b = true ∧ b ≠ "NoneType") ∧ q (.bl (isTy a b)) m
    | none => False
  | _ => False
theorem cb_isi : CallR X (.builtin "isinstance") (clL X.K bIsi) := by
  intro pins s σ H vs us Q I rv ⟨xs, m, q, s1, g, z, k⟩
  match xs, s1, z with
  | [x, .ty b], .cons r1 (.cons r2 .nil), z =>
    cases r2
    unfold bIsi at z
    cases e : tyA x m with
    | none => simp only [e] at z
    | some a =>
      simp only [e] at z
      obtain ⟨t1, t2⟩ := tyX_of g r1 e
      have hb : b ∈ tyNames := by simpa using z.1.1
      exact call_isi pins s σ H _ us Q I rv ⟨_, _, _, _, _, rfl, .ty b, t1, kit_ty (kit_at t2 hb z.1.2), k _ _ _ _ .refl g (.bl _) z.2⟩
  | [], _, z => exact z.elim
  | [x], _, z => exact z.elim
  | [x, .non], _, z => exact z.elim
  | [x, .bl _], _, z => exact z.elim
  | [x, .int _], _, z => exact z.elim
  | [x, .str _], _, z => exact z.elim
  | [x, .tup _], _, z => exact z.elim
  | [x, .ref _], _, z => exact z.elim
  | [x, .scr _], _, z => exact z.elim
  | [x, .raw _], _, z => exact z.elim
  | x :: y :: w :: r, _, z => cases y <;> exact z.elim
mutual
theorem pure_noDict : ∀ x : AV, (toD x).hasDict = false
  | .non => by simp [toD, PyData.hasDict]
  | .bl b => by simp [toD, PyData.hasDict]
  | .int i => by simp [toD, PyData.hasDict]
  | .str x => by simp [toD, PyData.hasDict]
  | .tup xs => by
    simp only [toD, PyData.hasDict]
    exact pure_noDicts xs
  | .ref a => by simp [toD, PyData.hasDict]
  | .ty n => by simp [toD, PyData.hasDict]
  | .scr ns => by simp [toD, PyData.hasDict]
  | .raw ns => by simp [toD, PyData.hasDict]
theorem pure_noDicts : ∀ xs : List AV, PyData.hasDictAll (toDs xs) = false
  | [] => by simp [toDs, PyData.hasDictAll]
  | x :: xs => by simp [toDs, PyData.hasDictAll, pure_noDict x, pure_noDicts xs]
end
def bRepr : AL := fun xs0 m0 q0 => one (fun x m q => match x with
  | .ref a => match m a with
    | some (.lst xs) => pureVs xs = true ∧ PyData.showableAll (toDs xs) = true ∧ PyData.depthAll (toDs xs) ≤ 150 ∧ (PyData.list (toDs xs)).shown.length ≤ sizeLine ∧ q (.str (PyData.list (toDs xs)).shown) m
    | _ => False
  | x => pureV x = true ∧ (toD x).showable = true ∧ (toD x).depth ≤ 150 ∧ (toD x).shown.length ≤ sizeLine ∧ q (.str (toD x).shown) m) xs0 m0 q0
theorem cb_repr (hu : X.A.units + 164 < cLine) (hg : X.A.guards = some []) : CallR X (.builtin "repr") (clL X.K bRepr) := cr_one fun pins s σ H v Q x m q us I rv s1 g z k => by
  have line : ∀ {a : Addr} {d : PyData}, Dp X.K H (.ref a) d → d.showable = true → d.hasDict = false → d.depth ≤ 160 → d.shown.length ≤ sizeLine → q (.str d.shown) m → wpAny (model X.prog X.w) X.A (call (.builtin "repr") [.ref a]) (EP X pins σ Q) X.xe s := fun {a d} dp hs hd hl hz z => by
    obtain ⟨as, rd⟩ := Dp.reads I d _ (.ref a) dp rfl
    refine repr_of_reads' rd hs (fun e => by rw [hd] at e; cases e) hg (by omega) (fun _ _ e => e) (fun h' u tk kp => ?_) hz
    exact ⟨.str d.shown, H, I.kept kp, ⟨_, rfl⟩, k _ _ _ _ .refl g (.str _) z⟩
  cases rv with
  | cons r1 rr =>
    cases rr
    cases x with
    | non =>
      cases s1
      cases r1
      obtain ⟨_, _, _, _, z⟩ := z
      simp only [toD, PyData.shown] at z
      exact PySem.P.repr_of_none ⟨.str "None", H, I.tok _, ⟨_, rfl⟩, k _ _ _ _ .refl g (.str _) z⟩
    | bl b =>
      cases s1
      cases r1
      obtain ⟨_, _, _, _, z⟩ := z
      simp only [toD, PyData.shown] at z
      exact PySem.P.repr_of_bool ⟨.str _, H, I.tok _, ⟨_, rfl⟩, k _ _ _ _ .refl g (.str _) z⟩
    | int i =>
      cases s1
      obtain ⟨t, rfl⟩ := r1
      obtain ⟨_, hs, _, _, z⟩ := z
      simp only [toD, PyData.shown] at z
      simp only [toD, PyData.showable, decide_eq_true_eq] at hs
      exact PySem.P.repr_of_int hs ⟨.str _, H, I.tok _, ⟨_, rfl⟩, k _ _ _ _ .refl g (.str _) z⟩
    | str y =>
      cases s1
      obtain ⟨t, rfl⟩ := r1
      obtain ⟨_, hs, _, hz, z⟩ := z
      simp only [toD, PyData.shown] at z hz
      exact PySem.P.repr_of_str ⟨.str _, H, I.tok _, ⟨_, rfl⟩, k _ _ _ _ .refl g (.str _) z⟩ hz
    | tup xs =>
      obtain ⟨hp, hs, hl, hz, z⟩ := z
      have dp := s1.dp hp
      cases s1 with
      | tup f1 f2 =>
        cases r1
        exact line dp hs (pure_noDict (.tup xs)) (by omega) hz z
    | ref a =>
      cases s1
      cases r1
      cases ea : m a with
      | none => simp only [ea] at z
      | some ob =>
        cases ob with
        | lst xs =>
          simp only [ea] at z
          obtain ⟨ws, f1, f2⟩ := g a _ ea
          obtain ⟨hp, hs, hl, hz, z⟩ := z
          exact line (.lst (SqL.of f1) (f2.dp hp)) (by simpa only [PyData.showable] using hs) (by simpa only [PyData.hasDict] using pure_noDicts xs) (by simp only [PyData.depth]; omega) hz z
        | _ => simp only [ea] at z
    | ty n => obtain ⟨hp, _⟩ := z; simp [pureV] at hp
    | scr n => obtain ⟨hp, _⟩ := z; simp [pureV] at hp
    | raw n => obtain ⟨hp, _⟩ := z; simp [pureV] at hp
end
end Ab

namespace Ab
open PySem PySem.Spec PyProof.Rows L2

section
variable {X : Cx} {pos : Pos}
def dcL (K : PySem.W.Frag) (g : ATG) (tt : ATT) (tk tv : ATE) (G : AHp → Prop) (D : Addr) (q : AK) (a : ASt) : List AV → AHp → Prop
  | [], m => G m ∧ q (.ref D) m
  | x :: xs, m => G m ∧ g x a m fun a2 m2 => tt a2 m2 fun b m3 => if b = true then tk a2 m3 fun y m4 => tv a2 m4 fun z m5 => Fg K m5 fun m6 => match keyOf y, m6 D with
      | some k, some (.dK acc) => acc.length < sizeLine ∧ dcL K g tt tk tv G D q a xs (updA m6 D (.dK (putA acc k z)))
      | _, _ => False
    else Fg K m3 fun m6 => dcL K g tt tk tv G D q a xs m6
def aDc (K : PySem.W.Frag) (w : ATI) (g : ATG) (tt : ATT) (tk tv : ATE) (vs : List Nat) : ATE := fun a m q => w a m fun xs G m1 => ∀ D, m1 D = none → dcL K g tt tk tv G D q (wipeA a vs) xs (updA m1 D (.dK []))
theorem dc_of {K : PySem.W.Frag} {w : ATI} {g : ATG} {tt : ATT} {tk tv : ATE} {sl vs : List Nat} (hsl : ∀ i ∈ sl, i ∈ vs) {σ : L2.St} {H : Hp} {Q : VK} (h : clE K (aDc K w g tt tk tv vs) σ H Q) : tDc (clI K w) (clG K sl g) (clT K tt) (clE K tk) (clE K tv) vs σ H Q := by
  obtain ⟨a, m, q, h1, h2, h3, h4⟩ := h
  refine ⟨a, m, _, h1, h2, h3, fun xs G m1 J H1 l1 g1 S q1 => fun D hD => ?_⟩
  have q1 := q1 D (g1.free hD)
  have lD : Le K H1 (upd H1 D (.dK [])) := .new hD
  refine ⟨fun i k H' => k = xs.length - i ∧ i ≤ xs.length ∧ ∃ m, Le K (upd H1 D (.dK [])) H' ∧ SimH K H' m ∧ dcL K g tt tk tv G D q (wipeA a vs) (xs.drop i) m, ⟨xs.length, by simp, Nat.zero_le _, _, .refl, g1.new hD (o := .dK []) ⟨[], upd_same, .nil⟩, q1⟩, ?_⟩
  rintro i k H2 ⟨rfl, hi, m2, l2, g2, q2⟩
  have l12 := lD.trans l2
  have s2 : SimS K H2 (wipeA a vs) (L2.wipe σ vs) := (h1.wiped vs).mono (l1.trans l12)
  by_cases hlt : i < xs.length
  · rw [List.drop_eq_getElem_cons hlt] at q2
    obtain ⟨gm, q2⟩ := q2
    refine .inr ⟨S.go i H2 m2 l12 g2 gm hlt, fun H' => ∃ m, Le K (upd H1 D (.dK [])) H' ∧ SimH K H' m ∧ dcL K g tt tk tv G D q (wipeA a vs) (xs.drop (i + 1)) m, fun H' z => ⟨xs.length - (i + 1), by omega, rfl, hlt, z⟩, fun v H3 y => ?_⟩
    obtain ⟨l3, g3, r3⟩ := S.yld i H2 m2 v H3 xs[i] l12 g2 gm (List.getElem?_eq_getElem hlt) y
    refine ⟨xs[i], wipeA a vs, m2, _, r3, s2.mono l3, g3, q2, fun t4 m4 σ4 H4 l4 s4 g4 z1 z2 q4 => ⟨wipe_same hsl z1 z2, t4, m4, _, s4, g4, q4, fun b m5 H5 l5 g5 q5 => ?_⟩⟩
    cases b with
    | false =>
      rw [if_neg Bool.false_ne_true]
      have q5 := (if_neg Bool.false_ne_true) ▸ q5
      obtain ⟨m6, z, q5⟩ := q5
      exact ⟨m6, l2.trans (l3.trans (l4.trans l5)), z _ g5, q5⟩
    | true =>
      rw [if_pos rfl]
      have q5 := (if_pos rfl) ▸ q5
      refine ⟨t4, m5, _, s4.mono l5, g5, q5, fun y m6 v6 H6 l6 g6 r6 q6 => ⟨t4, m6, _, s4.mono (l5.trans l6), g6, q6, fun z m7 v7 H7 l7 g7 r7 ⟨m7, z7, q7⟩ => ?_⟩⟩
      have g7 := z7 _ g7
      cases ek : keyOf y with
      | none => simp only [ek] at q7
      | some kk =>
        cases e7 : m7 D with
        | none => simp only [ek, e7] at q7
        | some o =>
          cases o with
          | dK acc =>
            simp only [ek, e7] at q7
            obtain ⟨ws, f1, f2⟩ := g7 D _ e7
            have hk := key_sim r6 ek
            subst hk
            have hl : acc.length = ws.length := Paired.length f2
            have l8 : Le K H7 (upd H7 D (.dK (putK ws kk v7))) := .dict f1
            exact ⟨ws, kk, rfl, f1, by rw [← hl]; exact q7.1, _, l2.trans (l3.trans (l4.trans (l5.trans (l6.trans (l7.trans l8))))), g7.dictPut e7 f1 (putA_sim f2 r7), q7.2⟩
          | _ => simp only [ek, e7] at q7
  · have hi' : xs.length ≤ i := Nat.le_of_not_lt hlt
    rw [List.drop_eq_nil_of_le hi'] at q2
    exact .inl ⟨S.stop i H2 m2 l12 g2 q2.1 hi', h4 _ m2 _ H2 (l1.trans l12) g2 (.ref D) q2.2⟩
variable {kx vx tg iter : Expr} {ifs : List Expr} {scope : Scope} {own : List (Str × Nat)}
theorem ps_setDc {i : Nat} {y : Str} {py spos : Pos} {wi : TI} {g : TG} {tt : TT} {tk tv : TE} (hc : X.calm = true) (hN : X.N.Nodup) (hy : X.N[i]? = some y) (hyl : X.env.scope.names.lookup y = some .local)
    (hsw : swapsWith (.DictComp kx vx [⟨tg, iter, ifs, 0⟩] scope pos) (some (.Name y py)) spos.line X.env = pure true) (hi : PI X tg iter wi) (ok : BlkOk X.N X.env.scope scope own)
    (hg : ∀ (s : Shared) (H : Hp) (C : Addr) (cl : List (Str × Addr)) (fp : List Addr), PG (X.blk s H scope (compEnvC scope cl C X.env) fp) tg g) (ht : ∀ (s : Shared) (H : Hp) (C : Addr) (cl : List (Str × Addr)) (fp : List Addr), PTs (X.blk s H scope (compEnvC scope cl C X.env) fp) ifs tt)
    (hk : ∀ (s : Shared) (H : Hp) (C : Addr) (cl : List (Str × Addr)) (fp : List Addr), PE (X.blk s H scope (compEnvC scope cl C X.env) fp) kx tk)
    (he : ∀ (s : Shared) (H : Hp) (C : Addr) (cl : List (Str × Addr)) (fp : List Addr), PE (X.blk s H scope (compEnvC scope cl C X.env) fp) vx tv) (hs : ∀ x, foldedSetIterable iter X.env x = pure x) :
    PS X (.Assign [.Name y py] (.DictComp kx vx [⟨tg, iter, ifs, 0⟩] scope pos) spos) (L2.tAsg (tDc wi g tt tk tv (own.map (·.2))) (gName i)) := by
  constructor
  intro pins s σ H D inv z
  rw [exec_Assign_Name_used _ _ _ _ hsw]
  apply wpAny_bind
  apply wpAny_standAt
  apply wpAny_bind
  show wpAny _ X.A (comprehension (.DictComp kx vx [⟨tg, iter, ifs, 0⟩] scope pos) scope X.env (firstIterPos [⟨tg, iter, ifs, 0⟩] pos) newDict false (eval iter X.env) (some (assign (.Name y py) X.env)) >>= fun _ => pure ()) _ _ s
  have want : tDc wi g tt tk tv (own.map (·.2)) σ H (fun x H1 => gName i x σ H1 D.nx) := z
  have main := dc_core (pos := pos) (use := some (assign (.Name y py) X.env)) (Qf := fun _ s2 => SP X pins D .next s2) (pos' := firstIterPos [⟨tg, iter, ifs, 0⟩] pos) hc hN inv hi ok hg ht hk he hs want ?_
  · exact wpAny_bind (thn main fun _ s2 q => wpAny_pure (wpAny_pure q))
  · intro L C s2 m H2 inv2 q ns fp
    show wpAny _ _ (assign (.Name y py) X.env (.ref L)) _ _ _
    apply wpAny_assign_Name
    apply store_ok2 (v := V.ref L) inv2 hN hy (.inl hyl) rfl ?_ (.inr hyl)
    rintro s3 inv3 ⟨b, same, hb⟩
    obtain ⟨f0, f1, f2, f3, f4, f5⟩ := fp
    have apart : C ≠ b := by
      cases hb with
      | inl z => rw [z]; exact f1
      | inr z => exact fun e => f4 y b z e.symm
    refine ⟨m, ns.sameBut same apart, ?_⟩
    intro h4 same4
    exact ⟨_, H2, inv3.turned (t' := s3.toks) (fun c o hc2 e => (same4.2 c hc2).trans e) f0 f1 f3 f4 f5, q⟩
theorem sw_dict {k v : Expr} {gs : List Comprehension} {py : Pos} {y : Str} {l : Nat} {env : Env} (h1 : env.scope.kind = .function) (h2 : env.scope.names.lookup y = some .local) (h3 : (py.line == pos.line) = true)
    (h4 : (scope.names.any fun (n, k) => n == y && (k == .local || k == .cell)) = false) : swapsWith (.DictComp k v gs scope pos) (some (.Name y py)) l env = pure true := by
  have a : env.kindOf y = some .local := h2
  have b : env.blockKind = .function := by
    unfold Env.blockKind
    rw [h1]
    rfl
  unfold swapsWith
  simp only [b, a, h4, Expr.pos, h3]
  rfl
variable {w : ATI} {sl : List Nat} {g : ATG} {tt : ATT} {tk tv : ATE}
theorem ae_dc (hc : X.calm = true) (hN : X.N.Nodup) (hi : AI X tg iter w) (ok : BlkOk X.N X.env.scope scope own)
    (hg : ∀ (s : Shared) (H : Hp) (C : Addr) (cl : List (Str × Addr)) (fp : List Addr), AG (X.blk s H scope (compEnvC scope cl C X.env) fp) tg sl g) (ht : ∀ (s : Shared) (H : Hp) (C : Addr) (cl : List (Str × Addr)) (fp : List Addr), ATs (X.blk s H scope (compEnvC scope cl C X.env) fp) ifs tt)
    (hk : ∀ (s : Shared) (H : Hp) (C : Addr) (cl : List (Str × Addr)) (fp : List Addr), AE (X.blk s H scope (compEnvC scope cl C X.env) fp) kx tk)
    (he : ∀ (s : Shared) (H : Hp) (C : Addr) (cl : List (Str × Addr)) (fp : List Addr), AE (X.blk s H scope (compEnvC scope cl C X.env) fp) vx tv) (hsl : ∀ i ∈ sl, i ∈ own.map (·.2) := by decide) (hs : ∀ x, foldedSetIterable iter X.env x = pure x := by intro _; rfl) :
    AE X (.DictComp kx vx [⟨tg, iter, ifs, 0⟩] scope pos) (aDc X.K w g tt tk tv (own.map (·.2))) := peI (pe_dc hc hN hi ok hg ht hk he hs) fun _ _ _ h => dc_of hsl h
theorem as_setDc {i : Nat} {y : Str} {py spos : Pos} (hc : X.calm = true) (hN : X.N.Nodup) (hy : X.N[i]? = some y) (hyl : X.env.scope.names.lookup y = some .local)
    (hsw : swapsWith (.DictComp kx vx [⟨tg, iter, ifs, 0⟩] scope pos) (some (.Name y py)) spos.line X.env = pure true) (hi : AI X tg iter w) (ok : BlkOk X.N X.env.scope scope own)
    (hg : ∀ (s : Shared) (H : Hp) (C : Addr) (cl : List (Str × Addr)) (fp : List Addr), AG (X.blk s H scope (compEnvC scope cl C X.env) fp) tg sl g) (ht : ∀ (s : Shared) (H : Hp) (C : Addr) (cl : List (Str × Addr)) (fp : List Addr), ATs (X.blk s H scope (compEnvC scope cl C X.env) fp) ifs tt)
    (hk : ∀ (s : Shared) (H : Hp) (C : Addr) (cl : List (Str × Addr)) (fp : List Addr), AE (X.blk s H scope (compEnvC scope cl C X.env) fp) kx tk)
    (he : ∀ (s : Shared) (H : Hp) (C : Addr) (cl : List (Str × Addr)) (fp : List Addr), AE (X.blk s H scope (compEnvC scope cl C X.env) fp) vx tv) (hsl : ∀ i ∈ sl, i ∈ own.map (·.2) := by decide) (hs : ∀ x, foldedSetIterable iter X.env x = pure x := by intro _; rfl) :
    AS X (.Assign [.Name y py] (.DictComp kx vx [⟨tg, iter, ifs, 0⟩] scope pos) spos) (aAsg (aDc X.K w g tt tk tv (own.map (·.2))) (aName i)) := psI (ps_setDc (i := i) hc hN hy hyl hsw hi ok hg ht hk he hs) fun D σ H ⟨a, m, d, h1, h2, h3, h4⟩ => by
  have z : clE X.K (aDc X.K w g tt tk tv (own.map (·.2))) σ H (fun x H1 => gName i x σ H1 D.nx) := ⟨a, m, _, h1, h2, h3, fun x m1 v H1 l g1 r q => h4.nx _ m1 _ H1 l ((h1.mono l).put r i) g1 q⟩
  exact dc_of hsl z
end

section
variable {X : Cx} {pos : Pos} {tg : Expr}
def iSeq (K : PySem.W.Frag) (tl : TE) : TI := fun σ H R => tl σ H fun x H1 => ∃ a, x = .ref a ∧ (((∃ xs, SqL K H1 a xs) ∧ R (Itl K a) H1) ∨ ((∃ xs, SqT K H1 a xs) ∧ R (Itt K a) H1))
theorem pi_seq {l : Expr} {tl : TE} (hl : PE X l tl) : PI X tg l (iSeq X.K tl) := by
  constructor
  intro pins s σ H R inv h
  apply thn (hl.run pins s σ H _ inv h)
  rintro v s1 ⟨x, H1, inv1, r1, a, e, q⟩
  subst e
  cases r1
  have mine : ∀ b ∈ [s1.heap.objs.size], FpOk X pins H1 b := by
    intro b hb
    rw [List.mem_singleton] at hb
    subst hb
    exact inv1.fpOk (Nat.le_refl _) (inv1.hok.fresh (Nat.le_refl _))
  have kept : ∀ o : Obj, Inv X pins σ H1 { s1 with heap := s1.heap.push o } := fun o => inv1.kept (t' := s1.toks) fun b u z => Heap.get?_push_of_some _ z
  cases q with
  | inl q =>
    obtain ⟨⟨xs, hq⟩, q⟩ := q
    obtain ⟨its, rv, pl, _⟩ := inv1.list hq
    apply wpAny_pyIter_list pl.isList
    exact ⟨s1.heap.objs.size, [s1.heap.objs.size], _, _, H1, rfl, kept _, turn_list a _, ⟨_, Heap.get?_push_size _ rfl, rfl, rfl⟩, mine, q⟩
  | inr q =>
    obtain ⟨⟨xs, hq⟩, q⟩ := q
    obtain ⟨its, rv, pl, _⟩ := inv1.tuple hq
    have tu : s1.heap.IsTuple a its.toArray := pl
    apply wpAny_pyIter_tuple tu
    exact ⟨s1.heap.objs.size, [s1.heap.objs.size], _, _, H1, rfl, kept _, turn_tuple a _, ⟨_, Heap.get?_push_size _ rfl, rfl, rfl⟩, mine, q⟩
theorem itl_s {K : PySem.W.Frag} {H : Hp} (b : Addr) (xs : List AV) : ItS K H xs (fun m => m b = some (.lst xs)) (Itl K b) := by
  refine ⟨fun i H' m' l g e i1 => ?_, fun i H' m' v H2 x l g e e2 y => ?_, fun i H' m' l g e i1 => ?_⟩
  · obtain ⟨ws, f1, f2⟩ := g b _ e
    have : i < ws.length := by rw [← f2.length]; exact i1
    exact ⟨ws, ws[i], SqL.of f1, List.getElem?_eq_getElem this⟩
  · obtain ⟨ws, f1, f2⟩ := g b _ e
    obtain ⟨rfl, y⟩ := y
    obtain ⟨v', e3, r3⟩ := f2.get e2
    have := y ws (SqL.of f1)
    rw [e3] at this; cases this
    exact ⟨.refl, g, r3⟩
  · obtain ⟨ws, f1, f2⟩ := g b _ e
    exact ⟨ws, SqL.of f1, by rw [← f2.length]; exact i1⟩
theorem itt_s {K : PySem.W.Frag} {H : Hp} {b : Addr} {xs : List AV} {ws : List V} (f1 : SqT K H b ws) (f2 : SimVs K H xs ws) : ItS K H xs (fun _ => True) (Itt K b) := by
  refine ⟨fun i H' m' l g e i1 => ?_, fun i H' m' v H2 x l g e e2 y => ?_, fun i H' m' l g e i1 => ?_⟩
  · have : i < ws.length := by rw [← f2.length]; exact i1
    exact ⟨ws, ws[i], l.tup _ _ f1, List.getElem?_eq_getElem this⟩
  · obtain ⟨rfl, y⟩ := y
    obtain ⟨v', e3, r3⟩ := f2.get e2
    have := y ws (l.tup _ _ f1)
    rw [e3] at this; cases this
    exact ⟨.refl, g, r3.mono l⟩
  · exact ⟨ws, l.tup _ _ f1, by rw [← f2.length]; exact i1⟩
def wAny (te : ATE) : ATI := fun a m q => te a m fun x m1 => match x with
  | .tup xs => q xs (fun _ => True) m1
  | .ref b => match m1 b with
    | some (.lst xs) => q xs (fun m => m b = some (.lst xs)) m1
    | _ => False
  | _ => False
theorem ai_seq {e : Expr} {te : ATE} (h : AE X e te) : AI X tg e (wAny te) := piI (pi_seq h) fun σ H R ⟨a, m, q, h1, h2, h3, h4⟩ => by
  refine ⟨a, m, _, h1, h2, h3, fun x m1 v H1 l1 g1 r1 q1 => ?_⟩
  cases x with
  | ref b =>
    cases r1
    cases eb : m1 b with
    | none => simp only [eb] at q1
    | some ob =>
      cases ob with
      | lst xs =>
        simp only [eb] at q1
        obtain ⟨ws, f1, f2⟩ := g1 b _ eb
        exact ⟨b, rfl, .inl ⟨⟨ws, SqL.of f1⟩, h4 xs _ m1 _ H1 l1 g1 (itl_s b xs) q1⟩⟩
      | _ => simp only [eb] at q1
  | tup xs =>
    cases r1 with
    | tup f1 f2 => exact ⟨_, rfl, .inr ⟨⟨_, f1.sq⟩, h4 xs _ m1 _ H1 l1 g1 (itt_s f1.sq f2) q1⟩⟩
  | _ => exact q1.elim

def asStrs : List AV → Option (List Str)
  | [] => some []
  | .str i :: r => (asStrs r).map (i :: ·)
  | _ => none
theorem asStrs_eq : ∀ {xs : List AV} {ns : List Str}, asStrs xs = some ns → xs = ns.map AV.str
  | [], ns, h => by cases h; rfl
  | x :: r, ns, h => by
    cases x with
    | str i =>
      unfold asStrs at h
      cases e : asStrs r with
      | none => rw [e] at h; cases h
      | some l =>
        rw [e] at h
        cases h
        rw [asStrs_eq e]
        rfl
    | _ => cases h
theorem asStrs_map : ∀ ns : List Str, asStrs (ns.map AV.str) = some ns
  | [] => rfl
  | n :: ns => by
    show (asStrs (ns.map AV.str)).map (n :: ·) = _
    rw [asStrs_map ns]
    rfl
def aJoin (to te : ATE) : ATE := fun a m q => to a m fun x m1 => match x with
  | .str s => te a m1 fun y m2 => match y with
    | .ref b => match m2 b with
      | some (.lst xs) => match asStrs xs with
        | some ys => (ys.map (·.length)).sum + ys.length * s.length ≤ 16777216 ∧ q (.str (Txt.join s ys)) m2
        | none => False
      | _ => False
    | _ => False
  | _ => False
theorem ae_join {o e : Expr} {to te : ATE} {apos : Pos} (ho : AE X o to) (he : AE X e te) (hs : starEach [e] X.env = [(false, eval e X.env)] := by rfl) (hbase : attributeBase o "join" X.env (eval o X.env) = eval o X.env := by rfl) (hline : (apos.endLine == pos.line) = true := by rfl) :
    AE X (.Call (.Attribute o "join" apos) [e] [] pos) (aJoin to te) := peI (pe_join ho he hs hbase hline) fun σ H Q ⟨a, m, q, h1, h2, h3, h4⟩ => by
  refine ⟨a, m, _, h1, h2, h3, fun x m1 v H1 l1 g1 r1 q1 => ?_⟩
  cases x with
  | str s =>
    cases r1
    refine ⟨⟨s, rfl⟩, a, m1, _, h1.mono l1, g1, q1, fun y m2 u H2 l2 g2 r2 q2 => ?_⟩
    cases y with
    | ref b =>
      cases r2
      cases eb : m2 b with
      | none => simp only [eb] at q2
      | some ob =>
        cases ob with
        | lst xs =>
          cases en : asStrs xs with
          | none => simp only [eb, en] at q2
          | some ys =>
            simp only [eb, en] at q2
            obtain ⟨ws, f1, f2⟩ := g2 b _ eb
            rw [asStrs_eq en] at f2
            have e := SimVs.strs f2
            subst e
            exact ⟨s, b, ys, rfl, rfl, .inl (SqL.of f1), q2.1, h4 _ _ _ _ (l1.trans l2) g2 (.str _) q2.2⟩
        | _ => simp only [eb] at q2
    | _ => exact q2.elim
  | _ => exact q1.elim

theorem ae_ty {x : Str} {n : String} (hg : Gl X x) (hm : X.mg x = none) (hv : bootBuiltins x = some (.type n)) (hn : x ≠ "__name__" := by decide) (hd : (x == ("__debug__" : Str)) = false := by decide) : AE X (.Name x pos) (aC (.ty n)) := ae_c (pe_bltn (v := .ty n) hg hm hv rfl hn hd) fun _ => .ty n
theorem ae_gStr {x z : Str} (hg : Gl X x) (hm : ∃ t, X.mg x = some (.str z t)) (hd : (x == ("__debug__" : Str)) = false := by decide) : AE X (.Name x pos) (aC (.str z)) := by
  obtain ⟨t, hm⟩ := hm
  exact ae_c (pe_glob (v := .str z) hg hm ⟨t, rfl⟩ hd) fun _ => .str z
theorem ae_gInt {x : Str} {z : Int} (hg : Gl X x) (hm : ∃ t, X.mg x = some (.int z t)) (hd : (x == ("__debug__" : Str)) = false := by decide) : AE X (.Name x pos) (aC (.int z)) := by
  obtain ⟨t, hm⟩ := hm
  exact ae_c (pe_glob (v := .int z) hg hm ⟨t, rfl⟩ hd) fun _ => .int z
end
structure Def (P : Program) (w : World) (K : PySem.W.Frag) (mg : Str → Option Value) (base : Heap) (k : Nat) (x : Str) (ps : List Str) (sp : ASp) : Prop where
  ex : ∃ f fd, mg x = some (.ref f) ∧ PySem.W.keepIn K (.ref f) = true ∧ Binds K fd ps [] ∧ AFn P w K mg base k f fd ps sp
theorem Def.imp {P : Program} {w : World} {K : PySem.W.Frag} {mg : Str → Option Value} {base : Heap} {k : Nat} {x : Str} {ps : List Str} {sp sp' : ASp} (D : Def P w K mg base k x ps sp) (h : ∀ xs m q, sp' xs m q → sp xs m q) : Def P w K mg base k x ps sp' :=
  let ⟨f, fd, a, b, c, d⟩ := D.ex; ⟨f, fd, a, b, c, d.imp h⟩
theorem Def.up {P : Program} {w : World} {K : PySem.W.Frag} {mg : Str → Option Value} {base : Heap} {j k : Nat} {x : Str} {ps : List Str} {sp : ASp} (D : Def P w K mg base j x ps sp) (h : j ≤ k) : Def P w K mg base k x ps sp :=
  let ⟨f, fd, a, b, c, d⟩ := D.ex; ⟨f, fd, a, b, c, FnG.up d h⟩
structure Top (K : PySem.W.Frag) (mg : Str → Option Value) (x : Str) (st : Stmt) (ps : List Str) : Prop where
  ex : ∃ f fd, mg x = some (.ref f) ∧ Fun K x x st f fd ∧ Binds K fd ps []
theorem top_mk {K : PySem.W.Frag} {mg : Str → Option Value} {h : Heap} {x : Str} {st : Stmt} {ps : List Str} {f : Addr} {oc : Value} {od an : Option Addr} {osl : Array (Option Value)} {kV doc pm cdv ct : Value} (X : K.In h) (G : h.Ns mainGlobals mg)
    (a : PySem.W.nsIn K mainGlobals x = some (some (.ref f))) (l : K.lookup f = some ⟨oc, od, .func (PySem.W.fnOf x x (defArgs st) (defBody st) (defScope st) .none kV doc pm an cdv ct), osl⟩)
    (c : PySem.W.codeIn K cdv x = true) (k : PySem.W.keepIn K (.ref f) = true)
    (b : ∀ (kV doc pm : Value) (an : Option Addr) (cdv ct : Value) (us : List Value), us.length = ps.length → bindArgs (PySem.W.fnOf x x (defArgs st) (defBody st) (defScope st) .none kV doc pm an cdv ct) ⟨us, []⟩ = pure (ps.zip us)) : Top K mg x st ps :=
  ⟨f, _, PySem.W.mg_of X G a, fun_mk l c k, (fun_mk l c k).binds b⟩
section
variable {X : Cx} {k j : Nat} {ps : List Str} {sp : ASp} {x : Str} {p pos : Pos} {e : Expr} {es : List Expr} {t : ATA}
theorem ae_callN (D : Def X.prog X.w X.K X.mg X.base k x ps sp) (hr : Room j X.A) (hkj : k ≤ j) (hgd : X.A.guards = some []) (hg : Gl X x) (ha : AA X (e :: es) t) (nd : (x == ("__debug__" : Str)) = false := by decide)
    (se : starEach (e :: es) X.env = (false, eval e X.env) :: starEach es X.env := by rfl) (sp0 : (backTo pos (starEach es X.env)).any (·.1) = false := by rfl) : AE X (.Call (.Name x p) (e :: es) [] pos) (aCall sp [] t) := by
  obtain ⟨f, fd, hm, hk, hb, F⟩ := D.ex
  exact ae_call F (hr.mono hkj) hgd hg hm hk hb ha nd se sp0
theorem ae_callN0 (D : Def X.prog X.w X.K X.mg X.base k x ps sp) (hr : Room j X.A) (hkj : k ≤ j) (hgd : X.A.guards = some []) (hg : Gl X x) (nd : (x == ("__debug__" : Str)) = false := by decide) : AE X (.Call (.Name x p) [] [] pos) (aCall sp [] aNil) := by
  obtain ⟨f, fd, hm, hk, hb, F⟩ := D.ex
  exact ae_call0 F (hr.mono hkj) hgd hg hm hk hb nd
end
theorem okT {P : Program} {w : World} {K : PySem.W.Frag} {mg : Str → Option Value} {base : Heap} {x : Str} {st : Stmt} {N ps : List Str} {k : Nat} {sp : ASp} (T : Top K mg x st ps) (S : FnScope N ps (defScope st))
    (len : ∀ xs m q, sp xs m q → xs.length = ps.length)
    (hb : ∀ (f : Addr) (cdv : Value) (A : Around) (o : List Env) (s : Shared) (H : Hp) (E : XK), Room k (A.deeper (envOfC x (defScope st) s.heap.objs.size f cdv)) → A.guards = some [] →
      ∃ t, ASs (cxOf CX0 P w K mg base N x (defScope st) f cdv A o s H E).nox (defBody st) t ∧ ∀ H xs m q, sp xs m q → SimH K H m → ∃ m1, SimH K H m1 ∧ t ⟨fun _ m' => Fin K q .non m', fun v m' => Fin K q v m', fun _ _ => False, fun _ _ => False⟩ (startA N xs) m1) : Def P w K mg base (k + 1) x ps sp := by
  obtain ⟨f, fd, hm, F, B⟩ := T.ex
  exact ⟨f, fd, hm, F.kp, B, okB F S len fun cdv A o s H E hr hg => hb f cdv A o s H E hr hg⟩
def Reads (K : PySem.W.Frag) (N : List Str) (t : ATS) (sp : ASp) : Prop := ∀ H xs m q, sp xs m q → SimH K H m → ∃ m1, SimH K H m1 ∧ t ⟨fun _ m' => Fin K q .non m', fun v m' => Fin K q v m', fun _ _ => False, fun _ _ => False⟩ (startA N xs) m1
theorem room164 {k : Nat} {A : Around} (hr : Room k A) : A.units + 164 < cLine := by
  have := hr.un
  omega

def aNilEq (f : Bool → Bool) (ta : ATE) : ATE := fun a m q => ta a m fun x m1 => match x with
  | .ref b => match m1 b with
    | some (.lst xs) => q (.bl (f xs.isEmpty)) m1
    | _ => False
  | _ => False
theorem nil_eq {K : PySem.W.Frag} {f : Bool → Bool} {ta : ATE} {σ : L2.St} {H : Hp} {Q : VK} (h : clE K (aNilEq f ta) σ H Q) : tOp (cl2 K (bEqB f)) (clE K ta) (clE K (aLst aNil)) σ H Q := by
  obtain ⟨a, m, q, h1, h2, h3, h4⟩ := h
  refine ⟨a, m, _, h1, h2, h3, fun x m1 v H1 l1 g1 r1 q1 => ?_⟩
  cases x with
  | ref b =>
    cases r1
    cases eb : m1 b with
    | none => simp only [eb] at q1
    | some ob =>
      cases ob with
      | lst xs =>
        simp only [eb] at q1
        refine ⟨a, m1, fun y m2 => ∃ p, y = .ref p ∧ m1 p = none ∧ m2 = updA m1 p (.lst []), h1.mono l1, g1, ⟨by decide, fun p hp => ⟨p, rfl, hp, rfl⟩⟩, ?_⟩
        rintro _ _ u H2 l2 g2 r2 ⟨p, rfl, hp, rfl⟩
        have nb : b ≠ p := fun z => by rw [← z, eb] at hp; cases hp
        have sub : Sub m1 (updA m1 p (.lst [])) := Sub.refl.new hp
        refine ⟨.ref b, .ref p, _, fun z m3 => z = .bl (f xs.isEmpty) ∧ m3 = updA m1 p (.lst []), .ref b, r2, g2, ?_, ?_⟩
        · show (match updA m1 p (.lst []) b, updA m1 p (.lst []) p with | some (.lst xs), some (.lst ys) => _ | _, _ => False)
          rw [updA_ne nb, updA_same, eb]
          cases xs with
          | nil => exact ⟨by decide, by decide, by decide, rfl, rfl⟩
          | cons x xs => exact ⟨rfl, rfl⟩
        · rintro _ _ w H3 l3 g3 r3 ⟨rfl, rfl⟩
          exact h4 _ m1 w H3 (l1.trans (l2.trans l3)) (g3.sub sub g1.own) r3 q1
      | _ => simp only [eb] at q1
  | _ => exact q1.elim
section
variable {X : Cx} {pos p2 : Pos} {a : Expr} {ta : ATE}
theorem ae_eqNil (hu : X.A.units + 164 < cLine) (ha : AE X a ta) : AE X (.Compare a [.Eq] [.List [] p2] pos) (aNilEq id ta) := peI (pe_cmpR (ob_eq hu) ha (ae_lst aa_nil) (nomark _)) fun _ _ _ h => nil_eq h
theorem ae_neNil (hu : X.A.units + 164 < cLine) (ha : AE X a ta) : AE X (.Compare a [.NotEq] [.List [] p2] pos) (aNilEq not ta) := peI (pe_cmpR (ob_ne hu) ha (ae_lst aa_nil) (nomark _)) fun _ _ _ h => nil_eq h
theorem at_eqNil (hu : X.A.units + 164 < cLine) (ha : AE X a ta) : AT X (.Compare a [.Eq] [.List [] p2] pos) (aTest (aNilEq id ta)) := ptI (pt_cmpR (ob_eq hu) ha (ae_lst aa_nil) (nomark _)) fun _ _ _ h => test_of h fun _ z => nil_eq z
theorem at_neNil (hu : X.A.units + 164 < cLine) (ha : AE X a ta) : AT X (.Compare a [.NotEq] [.List [] p2] pos) (aTest (aNilEq not ta)) := ptI (pt_cmpR (ob_ne hu) ha (ae_lst aa_nil) (nomark _)) fun _ _ _ h => test_of h fun _ z => nil_eq z
end

theorem seq_i {K : PySem.W.Frag} {t u : ATS} {d : AEnds} {a : ASt} {m : AHp} (h : t ⟨fun a' m' => Fg K m' (u d a'), d.rt, d.bk, d.ct⟩ a m) : aSeq K t u d a m := h
theorem seq_n {K : PySem.W.Frag} {t u : ATS} {d : AEnds} {a : ASt} {m : AHp} (h : t ⟨fun a' m' => Fg K m' (u d a'), d.rt, d.bk, d.ct⟩ a m) : Fg K m (aSeq K t u d a) := .keep (seq_i h)
theorem seq_join {K : PySem.W.Frag} {t u : ATS} {d : AEnds} {a : ASt} {m : AHp} (p : ASt → AHp → Prop) (h1 : ∀ a' m', p a' m' → u d a' m') (h2 : ∀ n : ASt → AHp → Prop, (∀ a' m', Fg K m' (p a') → n a' m') → t ⟨n, d.rt, d.bk, d.ct⟩ a m) : aSeq K t u d a m :=
  h2 _ fun a' _ ⟨m2, z, q⟩ => ⟨m2, z, h1 a' m2 q⟩
theorem updA_old {m : AHp} {p a : Addr} {o : AO} (hp : m p = none) (ha : (m a).isSome = true) : updA m p o a = m a := updA_ne fun e => by
  rw [e, hp] at ha
  cases ha
section
variable {α : Type} {x y z w : α} {xs : List α}
theorem at0 : atI (x :: xs) 0 = some x := by unfold atI ixN; simp
theorem at1 : atI (x :: y :: xs) 1 = some y := by
  unfold atI ixN
  rw [if_pos (by decide), if_pos (by simp only [List.length_cons]; omega)]
  rfl
theorem at2 : atI (x :: y :: z :: xs) 2 = some z := by
  unfold atI ixN
  rw [if_pos (by decide), if_pos (by simp only [List.length_cons]; omega)]
  rfl
theorem at3 : atI (x :: y :: z :: w :: xs) 3 = some w := by
  unfold atI ixN
  rw [if_pos (by decide), if_pos (by simp only [List.length_cons]; omega)]
  rfl
theorem ixL0 : ixN (x :: xs).length 0 = some 0 := by
  unfold ixN
  rw [if_pos (by decide), if_pos (by simp only [List.length_cons]; omega)]
  rfl
theorem ixL1 : ixN (x :: y :: xs).length 1 = some 1 := by
  unfold ixN
  rw [if_pos (by decide), if_pos (by simp only [List.length_cons]; omega)]
  rfl
theorem ixL2 : ixN (x :: y :: z :: xs).length 2 = some 2 := by
  unfold ixN
  rw [if_pos (by decide), if_pos (by simp only [List.length_cons]; omega)]
  rfl
theorem set0 : (x :: xs).set 0 w = w :: xs := rfl
theorem set1 : (x :: y :: xs).set 1 w = x :: w :: xs := rfl
theorem set2 : (x :: y :: z :: xs).set 2 w = x :: y :: w :: xs := rfl
end
theorem Fg.drop1 {K : PySem.W.Frag} {m : AHp} {p : Addr} {o : AO} {P : AHp → Prop} (w : Own m) (hp : m p = none) (h : P m) : Fg K (updA m p o) P := .drop w (Sub.refl.new hp) h
theorem at_lt {α : Type} {xs : List α} {i : Int} (h0 : 0 ≤ i) (h1 : i < xs.length) : ∃ x, atI xs i = some x ∧ x ∈ xs := by
  have h : i.toNat < xs.length := by omega
  refine ⟨xs[i.toNat], ?_, List.getElem_mem h⟩
  unfold atI ixN
  rw [if_pos h0, if_pos h1]
  exact List.getElem?_eq_getElem h

section
variable {K : PySem.W.Frag} {H : Hp} {m m' : AHp} {d c : Addr}
theorem deck_open (g : SimH K H m) (e : m d = some (.deck c)) : ∃ (ns : List Int) (z n : Int), ns.length ≤ 63 ∧ 0 ≤ z ∧ z < 2 ^ 32 ∧ 0 ≤ n ∧ d ≠ c ∧ SimH K H (updA (updA m c (.lst (ns.map AV.int))) d (.lst [.ref c, .int z, .int n])) := by
  obtain ⟨ec, ns, z, n, h1, h2, h3, h4, h5, h6⟩ := g d _ e
  have ne : d ≠ c := fun q => by
    subst q
    rw [e] at ec
    cases ec
  refine ⟨ns, z, n, h3, h4, h5, h6, ne, fun b o q => ?_⟩
  by_cases hb : b = d
  · subst hb
    rw [updA_same] at q
    cases q
    exact ⟨_, h1, .cons (.ref _) (.cons (.int _) (.cons (.int _) .nil))⟩
  · rw [updA_ne hb] at q
    by_cases hc : b = c
    · subst hc
      rw [updA_same] at q
      cases q
      exact ⟨_, h2, SimVs.of_ints⟩
    · rw [updA_ne hc] at q
      have z := g b o q
      cases o with
      | deck c' =>
        have n1 : c' ≠ d := fun w => by
          have := z.1
          rw [w, e] at this
          cases this
        have n2 : c' ≠ c := fun w => by
          have := z.1
          rw [w, ec] at this
          cases this
          exact hb rfl
        exact ⟨by rw [updA_ne n1, updA_ne n2]; exact z.1, z.2⟩
      | _ => exact z
theorem deck_back (g : SimH K H m') (w : Own m) (e : m d = some (.deck c)) (k : ∀ b o, b ≠ d → b ≠ c → m b = some o → m' b = some o) {ns : List Int} {z n : Int} (h1 : m' d = some (.lst [.ref c, .int z, .int n])) (h2 : m' c = some (.lst (ns.map AV.int)))
    (h3 : ns.length ≤ 63) (h4 : 0 ≤ z) (h5 : z < 2 ^ 32) (h6 : 0 ≤ n) : SimH K H m := by
  have ec := w d c e
  intro b o q
  by_cases hb : b = d
  · subst hb
    rw [e] at q
    cases q
    obtain ⟨ws, f1, f2⟩ := g b _ h1
    obtain ⟨us, f3, f4⟩ := g c _ h2
    have e2 := SimVs.ints f4
    subst e2
    cases f2 with
    | cons r1 f2 =>
      cases r1
      cases f2 with
      | cons r2 f2 =>
        cases r2
        cases f2 with
        | cons r3 f2 =>
          cases r3
          cases f2
          exact ⟨ec, ns, z, n, f1, f3, h3, h4, h5, h6⟩
  · by_cases hc : b = c
    · subst hc
      rw [ec] at q
      cases q
      exact g.there h2
    · have z := g b o (k b o hb hc q)
      cases o with
      | deck c' => exact ⟨w b c' q, z.2⟩
      | _ => exact z
theorem deck_new (g : SimH K H m') (w : Own m) (s : Sub m m') (ed : m d = none) (ec : m c = none) (ne : d ≠ c) {ns : List Int} {z n : Int} (h1 : m' d = some (.lst [.ref c, .int z, .int n])) (h2 : m' c = some (.lst (ns.map AV.int)))
    (h3 : ns.length ≤ 63) (h4 : 0 ≤ z) (h5 : z < 2 ^ 32) (h6 : 0 ≤ n) : SimH K H (updA (updA m c (.hid d)) d (.deck c)) := by
  have w2 : Own (updA (updA m c (.hid d)) d (.deck c)) := by
    intro a b q
    by_cases ha : a = d
    · subst ha
      rw [updA_same] at q
      cases q
      rw [updA_ne (Ne.symm ne), updA_same]
    · rw [updA_ne ha] at q
      by_cases hc : a = c
      · subst hc
        rw [updA_same] at q
        cases q
      · rw [updA_ne hc] at q
        have q2 := w a b q
        have n1 : b ≠ d := fun z => by rw [z, ed] at q2; cases q2
        have n2 : b ≠ c := fun z => by rw [z, ec] at q2; cases q2
        rw [updA_ne n1, updA_ne n2]
        exact q2
  refine deck_back (m := updA (updA m c (.hid d)) d (.deck c)) g w2 updA_same (fun b o n1 n2 q => ?_) h1 h2 h3 h4 h5 h6
  rw [updA_ne n1, updA_ne n2] at q
  exact s b o q
end
end Ab

namespace Ab
open PySem PySem.Spec PyProof.Rows L2
section
variable {K : PySem.W.Frag} {m m' : AHp} {p a : Addr} {o u : AO}
theorem updA_keep (hp : m p = none) (e : m a = some u) : updA m p o a = some u := by
  rw [updA_ne fun z => by rw [← z, e] at hp; cases hp]
  exact e
theorem Sub.alloc (s : Sub m m') (h : m' p = Option.none) : Sub m (updA m' p o) := s.new (s.none h)
theorem Sub.over (s : Sub m (updA m' p o)) (h : m p = Option.none) : Sub m (updA (updA m' p o) p u) := by
  rw [updA_twice]
  intro b w z
  have hb : b ≠ p := fun e => by rw [e, h] at z; cases z
  have q := s b w z
  rw [updA_ne hb] at q ⊢
  exact q
theorem Own.free (w : Own m) (hp : m p = none) (no : ∀ c, o ≠ .deck c) : Own (updA m p o) := w.put (fun b e => by rw [hp] at e; cases e) no

theorem lc_rel {g : ATG} {tt : ATT} {te : ATE} {G : AHp → Prop} {D : Addr} {q : AK} {t : ASt} (R : AV → Option AV → Prop) (hG : ∀ acc, G (updA m D (.lst acc))) : ∀ (xs acc : List AV),
    (∀ x ∈ xs, ∀ acc' : List AV, ∀ k : Option AV → AHp → Prop, (∀ o, R x o → k o (updA m D (.lst acc'))) → g x t (updA m D (.lst acc')) fun a2 m2 => tt a2 m2 fun b m3 => if b = true then te a2 m3 fun y m4 => Fg K m4 (k (some y)) else Fg K m3 (k none)) →
    acc.length + xs.length < sizeLine → (∀ os : List (Option AV), Paired R xs os → q (.ref D) (updA m D (.lst (acc ++ os.filterMap id)))) → lcL K g tt te G D q t xs (updA m D (.lst acc))
  | [], acc, _, _, h => ⟨hG acc, by simpa using h [] .nil⟩
  | x :: xs, acc, st, hl, h => by
    have hl : acc.length + (xs.length + 1) < sizeLine := hl
    refine ⟨hG acc, ?_⟩
    refine st x List.mem_cons_self acc (fun o m5 => match o with
      | some y => match m5 D with
        | some (.lst acc) => acc.length < sizeLine ∧ lcL K g tt te G D q t xs (updA m5 D (.lst (acc ++ [y])))
        | _ => False
      | none => lcL K g tt te G D q t xs m5) fun o r => ?_
    cases o with
    | none => exact lc_rel R hG xs acc (fun y hy => st y (List.mem_cons_of_mem _ hy)) (by omega) fun os z => h (none :: os) (.cons r z)
    | some y =>
      simp only [updA_same, updA_twice]
      refine ⟨by omega, lc_rel R hG xs (acc ++ [y]) (fun y hy => st y (List.mem_cons_of_mem _ hy)) (by rw [List.length_append, List.length_singleton]; omega) fun os z => ?_⟩
      have := h (some y :: os) (.cons r z)
      simpa using this
theorem lc_fn {g : ATG} {tt : ATT} {te : ATE} {G : AHp → Prop} {D : Addr} {q : AK} {t : ASt} (f : AV → Option AV) (hG : ∀ acc, G (updA m D (.lst acc))) (xs acc : List AV)
    (st : ∀ x ∈ xs, ∀ acc' : List AV, ∀ k : Option AV → AHp → Prop, k (f x) (updA m D (.lst acc')) → g x t (updA m D (.lst acc')) fun a2 m2 => tt a2 m2 fun b m3 => if b = true then te a2 m3 fun y m4 => Fg K m4 (k (some y)) else Fg K m3 (k none))
    (hl : acc.length + xs.length < sizeLine) (h : q (.ref D) (updA m D (.lst (acc ++ xs.filterMap f)))) : lcL K g tt te G D q t xs (updA m D (.lst acc)) := by
  refine lc_rel (fun x o => o = f x) hG xs acc (fun x hx acc' k z => st x hx acc' k (z _ rfl)) hl fun os z => ?_
  have e : os.filterMap id = xs.filterMap f := by
    clear st hl h
    induction z with
    | nil => rfl
    | cons r _ ih =>
      subst r
      rw [List.filterMap_cons, List.filterMap_cons, ih]
      rfl
  rw [e]
  exact h
theorem lc_map0 {β : Type} {g : ATG} {tt : ATT} {te : ATE} {G : AHp → Prop} {D : Addr} {q : AK} {t : ASt} (f : β → AV) (P : β → Prop) (hG : ∀ acc, G (updA m D (.lst acc))) (xs : List AV)
    (st : ∀ x ∈ xs, ∀ acc' : List AV, ∀ k : Option AV → AHp → Prop, (∀ b, P b → k (some (f b)) (updA m D (.lst acc'))) → g x t (updA m D (.lst acc')) fun a2 m2 => tt a2 m2 fun b m3 => if b = true then te a2 m3 fun y m4 => Fg K m4 (k (some y)) else Fg K m3 (k none))
    (hl : xs.length < sizeLine) (h : ∀ bs : List β, bs.length = xs.length → (∀ b ∈ bs, P b) → q (.ref D) (updA m D (.lst (bs.map f)))) : lcL K g tt te G D q t xs (updA m D (.lst [])) := by
  refine lc_rel (fun _ o => ∃ b, P b ∧ o = some (f b)) hG xs [] (fun x hx acc k z => st x hx acc k fun b hb => z _ ⟨b, hb, rfl⟩) (by simpa using hl) fun os z => ?_
  have e : ∃ bs : List β, bs.length = xs.length ∧ (∀ b ∈ bs, P b) ∧ os.filterMap id = bs.map f := by
    clear st hl h
    induction z with
    | nil => exact ⟨[], rfl, fun _ z => (List.not_mem_nil z).elim, rfl⟩
    | cons r _ ih =>
      obtain ⟨bs, h1, h2, h3⟩ := ih
      obtain ⟨b, hb, rfl⟩ := r
      refine ⟨b :: bs, by rw [List.length_cons, List.length_cons, h1], fun c hc => ?_, ?_⟩
      · rcases List.mem_cons.mp hc with rfl | hc
        · exact hb
        · exact h2 c hc
      · rw [List.filterMap_cons, h3]; rfl
  obtain ⟨bs, h1, h2, h3⟩ := e
  rw [h3]
  exact h bs h1 h2
theorem lc_rel0 {g : ATG} {tt : ATT} {te : ATE} {G : AHp → Prop} {D : Addr} {q : AK} {t : ASt} (R : AV → Option AV → Prop) (hG : ∀ acc, G (updA m D (.lst acc))) (xs : List AV)
    (st : ∀ x ∈ xs, ∀ acc' : List AV, ∀ k : Option AV → AHp → Prop, (∀ o, R x o → k o (updA m D (.lst acc'))) → g x t (updA m D (.lst acc')) fun a2 m2 => tt a2 m2 fun b m3 => if b = true then te a2 m3 fun y m4 => Fg K m4 (k (some y)) else Fg K m3 (k none))
    (hl : xs.length < sizeLine) (h : ∀ os : List (Option AV), Paired R xs os → q (.ref D) (updA m D (.lst (os.filterMap id)))) : lcL K g tt te G D q t xs (updA m D (.lst [])) :=
  lc_rel R hG xs [] st (by simpa using hl) fun os z => by simpa using h os z
theorem lc_fn0 {g : ATG} {tt : ATT} {te : ATE} {G : AHp → Prop} {D : Addr} {q : AK} {t : ASt} (f : AV → Option AV) (hG : ∀ acc, G (updA m D (.lst acc))) (xs : List AV)
    (st : ∀ x ∈ xs, ∀ acc' : List AV, ∀ k : Option AV → AHp → Prop, k (f x) (updA m D (.lst acc')) → g x t (updA m D (.lst acc')) fun a2 m2 => tt a2 m2 fun b m3 => if b = true then te a2 m3 fun y m4 => Fg K m4 (k (some y)) else Fg K m3 (k none))
    (hl : xs.length < sizeLine) (h : q (.ref D) (updA m D (.lst (xs.filterMap f)))) : lcL K g tt te G D q t xs (updA m D (.lst [])) :=
  lc_fn f hG xs [] st (by simpa using hl) (by simpa using h)

theorem for_inv {g : ATG} {tb : ATS} {G : AHp → Prop} {d : AEnds} (I : List AV → ASt → AHp → Prop)
    (st : ∀ x r t m, I (x :: r) t m → G m ∧ ∀ n : ASt → AHp → Prop, (∀ t' m', Fg K m' (I r t') → n t' m') → g x t m fun a2 m2 => tb ⟨n, d.rt, d.nx, n⟩ a2 m2)
    (fin : ∀ t m, I [] t m → G m ∧ d.nx t m) : ∀ xs t m, I xs t m → forL K g tb G d xs t m
  | [], t, m, h => fin t m h
  | x :: xs, t, m, h => ⟨(st x xs t m h).1, (st x xs t m h).2 _ fun t' m' ⟨m2, z, q⟩ => ⟨m2, z, for_inv I st fin xs t' m2 q⟩⟩
theorem while_inv {c : ATT} {tb : ATS} {d : AEnds} (I : Nat → ASt → AHp → Prop)
    (st : ∀ n t m, I n t m → ∀ k : ASt → AHp → Prop, (∀ j t' m', j < n → Fg K m' (I j t') → k t' m') → c t m fun b m1 => if b = true then tb ⟨k, d.rt, d.nx, k⟩ t m1 else d.nx t m1) : ∀ n t m, I n t m → aWhile K c tb d t m := by
  have main : ∀ n t m, (∃ j, j < n ∧ I j t m) → whileN K c tb d n t m := by
    intro n
    induction n with
    | zero => rintro t m ⟨j, hj, _⟩; omega
    | succ n ih =>
      rintro t m ⟨j, hj, h⟩
      exact st j t m h _ fun i t' m' hi ⟨m2, z, q⟩ => ⟨m2, z, ih t' m2 ⟨i, by omega, q⟩⟩
  exact fun n t m h => ⟨n + 1, main _ t m ⟨n, Nat.lt_succ_self n, h⟩⟩

theorem sIx_int {n d : Nat} {i : Int} (h : 0 ≤ i) : HT.sIx n d (some i) = min i.toNat n := by
  show (if i < 0 then (i + (n : Int)).toNat else min i.toNat n) = min i.toNat n
  rw [if_neg (by omega)]
def cutG {α : Type} (xs : List α) (lo hi : Option Int) : List α := (xs.drop (HT.sIx xs.length 0 lo)).take (HT.sIx xs.length xs.length hi - HT.sIx xs.length 0 lo)
section
variable {α : Type} {xs : List α} {i j : Int}
theorem cutG_to (h : 0 ≤ j) : cutG xs none (some j) = xs.take j.toNat := by
  unfold cutG
  rw [sIx_int h, HT.sIx_none, List.drop_zero, Nat.sub_zero]
  by_cases hl : j.toNat ≤ xs.length
  · rw [Nat.min_eq_left hl]
  · rw [Nat.min_eq_right (by omega), List.take_of_length_le (Nat.le_refl _), List.take_of_length_le (by omega)]
theorem cutG_from (h : 0 ≤ i) : cutG xs (some i) none = xs.drop i.toNat := by
  unfold cutG
  rw [sIx_int h, HT.sIx_none]
  by_cases hl : i.toNat ≤ xs.length
  · rw [Nat.min_eq_left hl, List.take_of_length_le (by rw [List.length_drop]; omega)]
  · rw [Nat.min_eq_right (by omega), List.drop_eq_nil_of_le (Nat.le_refl _), List.drop_eq_nil_of_le (by omega), List.take_nil]
theorem cutG_at (h : 0 ≤ i) (h2 : 0 ≤ j) : cutG xs (some i) (some j) = (xs.drop i.toNat).take (j.toNat - i.toNat) := by
  unfold cutG
  rw [sIx_int h, sIx_int h2]
  by_cases hl : i.toNat ≤ xs.length
  · rw [Nat.min_eq_left hl]
    by_cases hj : j.toNat ≤ xs.length
    · rw [Nat.min_eq_left hj]
    · rw [Nat.min_eq_right (show xs.length ≤ j.toNat by omega), List.take_of_length_le (by rw [List.length_drop]; omega), List.take_of_length_le (by rw [List.length_drop]; omega)]
  · rw [Nat.min_eq_right (show xs.length ≤ i.toNat by omega), List.drop_eq_nil_of_le (Nat.le_refl _), List.drop_eq_nil_of_le (show xs.length ≤ i.toNat by omega), List.take_nil, List.take_nil]
theorem cutG_all : cutG xs none none = xs := by
  unfold cutG
  rw [HT.sIx_none, HT.sIx_none, List.drop_zero, Nat.sub_zero, List.take_length]
theorem cutG_mem {x : α} {lo hi : Option Int} (h : x ∈ cutG xs lo hi) : x ∈ xs := List.mem_of_mem_drop (List.mem_of_mem_take h)
end
theorem cutA_G (xs : List AV) (lo hi : Option Int) : cutA xs lo hi = cutG xs lo hi := rfl
theorem cutS_G (z : Str) (lo hi : Option Int) : (cutS z lo hi).cps.toList = cutG z.cps.toList lo hi := by
  unfold cutS cutG Str.length
  rw [Array.length_toList]
theorem map_take {α β : Type} (f : α → β) (xs : List α) (n : Nat) : (xs.map f).take n = (xs.take n).map f := List.map_take.symm

theorem str_len (z : Str) : z.length = z.cps.toList.length := by
  unfold Str.length
  rw [Array.length_toList]
theorem cps_add (a b : Str) : (a ++ b).cps.toList = a.cps.toList ++ b.cps.toList := Array.toList_append
theorem len_add (a b : Str) : (a ++ b).length = a.length + b.length := by rw [str_len, cps_add, List.length_append, ← str_len, ← str_len]
theorem joinL_chars : ∀ cs : List Nat, TL.joinL [] (cs.map fun i => [i]) = cs
  | [] => rfl
  | [_] => rfl
  | c :: d :: r => by
    show [c] ++ ([] ++ TL.joinL [] ((d :: r).map fun i => [i])) = _
    rw [joinL_chars (d :: r)]
    rfl
theorem join_chars (cs : List Nat) : Txt.join (Str.ofString "") (cs.map fun i => (⟨#[i]⟩ : Str)) = ⟨cs.toArray⟩ := by
  have e := SX.join_S [] (cs.map fun i => [i])
  rw [List.map_map] at e
  have e2 : (SX.S [] : Str) = Str.ofString "" := rfl
  rw [e2] at e
  refine Eq.trans ?_ (e.trans (by rw [joinL_chars]))
  rfl
def Word (w : Str) : Prop := 1 ≤ w.length ∧ w.length ≤ 8 ∧ ∀ c ∈ w.cps.toList, 97 ≤ c ∧ c ≤ 122
theorem Word.ok {w : Str} (h : Word w) : PyData.strOk w = true := by
  unfold PyData.strOk
  rw [← Array.all_toList, List.all_eq_true]
  intro c hc
  have := h.2.2 c hc
  exact decide_eq_true (by omega)
theorem Word.ne {w : Str} (h : Word w) : w ≠ "?" := by
  rintro rfl
  have := h.2.2 63 (by decide)
  omega
def isWord (w : Str) : Bool := decide (1 ≤ w.length) && decide (w.length ≤ 8) && w.cps.toList.all fun c => decide (97 ≤ c) && decide (c ≤ 122)
theorem isWord_iff (w : Str) : isWord w = true ↔ Word w := by
  unfold isWord Word
  simp only [Bool.and_eq_true, decide_eq_true_eq, List.all_eq_true, and_assoc]
end
end Ab

namespace Ab
open PySem PySem.Spec PyProof.Rows L2

section
variable {K : PySem.W.Frag} {H H' : Hp} {m m' : AHp} {d : Addr} {od : Obj} {kvs : List (Key × AV)} {ws : List (Key × V)}
theorem SimH.lockD (g : SimH K H m) (e : m d = some (.dK kvs)) (f : H d = some (.dK ws)) (r : SimK K H kvs ws) : SimH K (upd H d (.frz od (.dK ws))) (updA m d (.lkd kvs)) :=
  g.put (.dict f) (fun b u hb e => by rw [upd_ne hb]; exact e) (.lkd kvs) (fun b z => by rw [e] at z; cases z) ⟨od, ws, upd_same, SimK.mono (.dict f) r⟩
theorem Le0.unlock (f : H d = some (.frz od (.dK ws))) : Le0 K H (L2.upd H d (.dK ws)) := by
  refine ⟨fun a us h => ?_, fun a o us h => ?_, fun a o us h => ?_⟩
  · rcases h with (h | ⟨b, h⟩) | h
    · exact .inl (.inl (by rw [upd_ne (fun z => by rw [z, f] at h; cases h)]; exact h))
    · exact .inl (.inr ⟨b, by rw [upd_ne (fun z => by rw [z, f] at h; cases h)]; exact h⟩)
    · exact .inr h
  · rw [upd_ne (fun z => by rw [z, f] at h; cases h)]
    exact h
  · rw [upd_ne (fun z => by rw [z, f] at h; cases h)]
    exact h
theorem Le.around (f : H d = some (.dK ws)) (l : Le K (L2.upd H d (.frz od (.dK ws))) H') : Le K H (L2.upd H' d (.dK ws)) := by
  have ne : ∀ {a : Addr} {u : HO}, H a = some u → u ≠ .dK ws → a ≠ d := fun {a u} e n z => by
    subst z
    rw [f] at e
    cases e
    exact n rfl
  have l1 : Le K H (L2.upd H d (.frz od (.dK ws))) := .dict f
  refine ⟨⟨fun a us h => ?_, fun a o us h => ?_, fun a o us h => ?_⟩, fun a o us h => ?_⟩
  · have q := l.tup _ _ (l1.tup _ _ h)
    have f2 := l.lkd _ _ _ (show L2.upd H d (.frz od (.dK ws)) d = _ from upd_same)
    exact (Le0.unlock f2).tup _ _ q
  · rw [upd_ne (ne h (fun z => by cases z))]
    exact l.frz _ _ _ (l1.frz _ _ _ h)
  · rw [upd_ne (ne h (fun z => by cases z))]
    exact l.frt _ _ _ (l1.frt _ _ _ h)
  · rw [upd_ne (ne h (fun z => by cases z))]
    exact l.lkd _ _ _ (l1.lkd _ _ _ h)
theorem SimH.freeD (g : SimH K H m) (e : m d = some (.lkd kvs)) (f : H d = some (.frz od (.dK ws))) : SimH K (upd H d (.dK ws)) (updA m d (.dK kvs)) := by
  obtain ⟨o2, us, f2, r⟩ := g d _ e
  rw [f] at f2
  cases f2
  exact g.put0 (.unlock f) (fun b u hb e => by rw [upd_ne hb]; exact e) (.dK kvs) (fun b z => by rw [e] at z; cases z) ⟨ws, upd_same, SimK.mono0 (.unlock f) r⟩
end
section
variable {X : Cx} {st : Stmt} {t : ATS} {e : Expr} {te : ATE}
def aLock (t : ATS) : ATS := fun D a m => ∃ d kvs, m d = some (.dK kvs) ∧
  t ⟨fun a' m' => m' d = some (.lkd kvs) ∧ D.nx a' (updA m' d (.dK kvs)), fun v m' => m' d = some (.lkd kvs) ∧ D.rt v (updA m' d (.dK kvs)), fun a' m' => m' d = some (.lkd kvs) ∧ D.bk a' (updA m' d (.dK kvs)), fun a' m' => m' d = some (.lkd kvs) ∧ D.ct a' (updA m' d (.dK kvs))⟩ a (updA m d (.lkd kvs))
def aLockE (t : ATE) : ATE := fun a m q => ∃ d kvs, m d = some (.dK kvs) ∧ t a (updA m d (.lkd kvs)) fun v m' => m' d = some (.lkd kvs) ∧ q v (updA m' d (.dK kvs))
theorem as_lock (h : AS X st t) : AS X st (aLock t) := psI (ps_lock h) fun D σ H ⟨a, m, dd, h1, h2, ⟨d, kvs, e, q⟩, h4⟩ => by
  obtain ⟨ws, f1, f2⟩ := h2 d _ e
  have l0 : ∀ od : Obj, Le X.K H (upd H d (.frz od (.dK ws))) := fun _ => .dict f1
  refine ⟨d, .dK ws, f1, True.intro, fun od => ⟨a, _, _, h1.mono (l0 od), h2.lockD e f1 f2, q, ?_, ?_, ?_, ?_⟩⟩
  · exact fun t' m' σ' H' l s g ⟨em, q⟩ => ⟨l.lkd _ _ _ upd_same, h4.nx t' _ σ' _ (.around f1 l) (s.mono0 (.unlock (l.lkd _ _ _ upd_same))) (g.freeD em (l.lkd _ _ _ upd_same)) q⟩
  · exact fun v m' u H' l g r ⟨em, q⟩ => ⟨l.lkd _ _ _ upd_same, h4.rt v _ u _ (.around f1 l) (g.freeD em (l.lkd _ _ _ upd_same)) (r.mono0 (.unlock (l.lkd _ _ _ upd_same))) q⟩
  · exact fun t' m' σ' H' l s g ⟨em, q⟩ => ⟨l.lkd _ _ _ upd_same, h4.bk t' _ σ' _ (.around f1 l) (s.mono0 (.unlock (l.lkd _ _ _ upd_same))) (g.freeD em (l.lkd _ _ _ upd_same)) q⟩
  · exact fun t' m' σ' H' l s g ⟨em, q⟩ => ⟨l.lkd _ _ _ upd_same, h4.ct t' _ σ' _ (.around f1 l) (s.mono0 (.unlock (l.lkd _ _ _ upd_same))) (g.freeD em (l.lkd _ _ _ upd_same)) q⟩
theorem ae_lock (h : AE X e te) : AE X e (aLockE te) := peI (pe_lock h) fun σ H Q ⟨a, m, qq, h1, h2, ⟨d, kvs, e, q⟩, h4⟩ => by
  obtain ⟨ws, f1, f2⟩ := h2 d _ e
  exact ⟨d, .dK ws, f1, True.intro, fun od => ⟨a, _, _, h1.mono (.dict f1), h2.lockD e f1 f2, q, fun v m' u H' l g r ⟨em, q⟩ =>
    ⟨l.lkd _ _ _ upd_same, h4 v _ u _ (.around f1 l) (g.freeD em (l.lkd _ _ _ upd_same)) (r.mono0 (.unlock (l.lkd _ _ _ upd_same))) q⟩⟩⟩
end

section
variable {X : Cx} {pos : Pos} {tg e : Expr} {te : ATE}
def lkAt (x : AV) (m : AHp) (k : List (Key × AV) → Prop) : Prop := match x with
  | .ref d => match m d with
    | some (.lkd kvs) => k kvs
    | _ => False
  | _ => False
theorem lkAt_at {x : AV} {m : AHp} {k : List (Key × AV) → Prop} (h : lkAt x m k) : ∃ d kvs, x = .ref d ∧ m d = some (.lkd kvs) ∧ k kvs := by
  unfold lkAt at h
  split at h
  · rename_i d
    split at h
    · rename_i kvs e
      exact ⟨d, kvs, rfl, e, h⟩
    · exact h.elim
  · exact h.elim
def wKeys (te : ATE) : ATI := fun a m q => te a m fun x m1 => lkAt x m1 fun kvs => q (kvs.map fun kv => kA kv.1) (fun _ => True) m1
def wVals (te : ATE) : ATI := fun a m q => te a m fun x m1 => lkAt x m1 fun kvs => q (kvs.map (·.2)) (fun _ => True) m1
def wItems (te : ATE) : ATI := fun a m q => te a m fun x m1 => lkAt x m1 fun kvs => q (kvs.map fun kv => .raw [kA kv.1, kv.2]) (fun _ => True) m1
theorem simK_get {K : PySem.W.Frag} {H : Hp} {kvs : List (Key × AV)} {ws : List (Key × V)} (h : SimK K H kvs ws) {i : Nat} {k : Key} {v : V} (e : ws[i]? = some (k, v)) : ∃ x, kvs[i]? = some (k, x) ∧ SimV K H x v := by
  induction h generalizing i with
  | nil => simp at e
  | @cons p q ps qs r _ ih =>
    cases i with
    | zero =>
      simp at e
      subst e
      obtain ⟨a, x⟩ := p
      obtain ⟨r1, r2⟩ := r
      have r1 : a = k := r1
      subst r1
      exact ⟨x, rfl, r2⟩
    | succ i => exact ih (i := i) (by simpa using e)
theorem simA_key {K : PySem.W.Frag} {H : Hp} (k : Key) : SimV K H (kA k) (kV k) := by cases k <;> constructor
theorem ai_keys (h : AE X e te) : AI X tg e (wKeys te) := piI (pi_keys h) fun σ H R ⟨a, m, q, h1, h2, h3, h4⟩ => by
  refine ⟨a, m, _, h1, h2, h3, fun x m1 v H1 l1 g1 r1 q1 => ?_⟩
  obtain ⟨d, kvs, rfl, em, q1⟩ := lkAt_at q1
  obtain ⟨od, ws, f1, f2⟩ := g1 d _ em
  have hl : kvs.length = ws.length := Paired.length f2
  cases r1
  refine ⟨d, od, rfl, .inl ⟨ws, f1, h4 _ _ m1 _ H1 l1 g1 ⟨fun i H' m' l g _ i1 => ?_, fun i H' m' v H2 x l g _ e2 y => ?_, fun i H' m' l g _ i1 => ?_⟩ q1⟩⟩
  · exact ⟨l.lkd _ _ _ f1, by rw [← hl]; simpa using i1⟩
  · obtain ⟨rfl, k, u, e3, rfl⟩ := y
    obtain ⟨x', e4, s⟩ := simK_get f2 e3
    rw [List.getElem?_map, e4] at e2
    cases e2
    exact ⟨.refl, g, simA_key k⟩
  · exact ⟨l.lkd _ _ _ f1, by rw [← hl]; simpa using i1⟩
theorem ai_values {apos cpos : Pos} (h : AE X e te) (hbase : attributeBase e "values" X.env (eval e X.env) = eval e X.env := by rfl) (hline : (apos.endLine == cpos.line) = true := by rfl) : AI X tg (.Call (.Attribute e "values" apos) [] [] cpos) (wVals te) :=
  piI (pi_values h hbase hline) fun σ H R ⟨a, m, q, h1, h2, h3, h4⟩ => by
    refine ⟨a, m, _, h1, h2, h3, fun x m1 v H1 l1 g1 r1 q1 => ?_⟩
    obtain ⟨d, kvs, rfl, em, q1⟩ := lkAt_at q1
    obtain ⟨od, ws, f1, f2⟩ := g1 d _ em
    have hl : kvs.length = ws.length := Paired.length f2
    cases r1
    refine ⟨d, od, ws, rfl, f1, h4 _ _ m1 _ H1 l1 g1 ⟨fun i H' m' l g _ i1 => ?_, fun i H' m' v H2 x l g _ e2 y => ?_, fun i H' m' l g _ i1 => ?_⟩ q1⟩
    · exact ⟨l.lkd _ _ _ f1, by rw [← hl]; simpa using i1⟩
    · obtain ⟨rfl, k, e3⟩ := y
      obtain ⟨x', e4, s⟩ := simK_get f2 e3
      rw [List.getElem?_map, e4] at e2
      cases e2
      exact ⟨.refl, g, s.mono l⟩
    · exact ⟨l.lkd _ _ _ f1, by rw [← hl]; simpa using i1⟩
theorem newT_sim {K : PySem.W.Frag} {H : Hp} {m : AHp} {p : Addr} {xs : List AV} {vs : List V} (g : SimH K H m) (hp : H p = none) (r : SimVs K H xs vs) : Le K H (upd H p (.tup vs)) ∧ SimH K (upd H p (.tup vs)) m ∧ SimV K (upd H p (.tup vs)) (.raw xs) (.ref p) :=
  ⟨.new hp, g.more hp, .raw sq_new (r.mono (.new hp))⟩
theorem ai_items {apos cpos tpos : Pos} {elts : List Expr} {kk : Nat} (h : AE X e te) (hbase : attributeBase e "items" X.env (eval e X.env) = eval e X.env := by rfl) (hline : (apos.endLine == cpos.line) = true := by rfl) :
    AI X (.Tuple elts kk tpos) (.Call (.Attribute e "items" apos) [] [] cpos) (wItems te) :=
  piI (pi_items h hbase hline) fun σ H R ⟨a, m, q, h1, h2, h3, h4⟩ => by
    refine ⟨a, m, _, h1, h2, h3, fun x m1 v H1 l1 g1 r1 q1 => ?_⟩
    obtain ⟨d, kvs, rfl, em, q1⟩ := lkAt_at q1
    obtain ⟨od, ws, f1, f2⟩ := g1 d _ em
    have hl : kvs.length = ws.length := Paired.length f2
    cases r1
    refine ⟨d, od, ws, rfl, f1, h4 _ _ m1 _ H1 l1 g1 ⟨fun i H' m' l g _ i1 => ?_, fun i H' m' v H2 x l g _ e2 y => ?_, fun i H' m' l g _ i1 => ?_⟩ q1⟩
    · exact ⟨l.lkd _ _ _ f1, by rw [← hl]; simpa using i1⟩
    · obtain ⟨T, k, u, e3, rfl, hT, rfl⟩ := y
      obtain ⟨x', e4, s⟩ := simK_get f2 e3
      rw [List.getElem?_map, e4] at e2
      cases e2
      exact newT_sim g hT (.cons (simA_key k) (.cons (s.mono l) .nil))
    · exact ⟨l.lkd _ _ _ f1, by rw [← hl]; simpa using i1⟩

def enumA : Nat → List AV → List AV
  | _, [] => []
  | k, x :: r => .raw [.int (k : Nat), x] :: enumA (k + 1) r
theorem enumA_len : ∀ (k : Nat) (xs : List AV), (enumA k xs).length = xs.length
  | _, [] => rfl
  | k, x :: r => congrArg (· + 1) (enumA_len (k + 1) r)
theorem enumA_get : ∀ (k i : Nat) (xs : List AV), (enumA k xs)[i]? = (xs[i]?).map fun x => .raw [.int ((k + i : Nat)), x]
  | _, _, [] => by simp [enumA]
  | k, 0, x :: r => rfl
  | k, i + 1, x :: r => by
    rw [enumA, List.getElem?_cons_succ, List.getElem?_cons_succ, enumA_get (k + 1) i r, show k + 1 + i = k + (i + 1) by omega]
def wEnum (te : ATE) : ATI := fun a m q => te a m fun x m1 => match x with
  | .ref b => match m1 b with
    | some (.lst xs) => q (enumA 0 xs) (fun m => m b = some (.lst xs)) m1
    | _ => False
  | _ => False
theorem ai_enum {p tpos : Pos} {elts : List Expr} {kk : Nat} (hg : Gl X "enumerate") (hm : X.mg "enumerate" = none) (h : AE X e te) (hs : starEach [e] X.env = [(false, eval e X.env)] := by rfl) :
    AI X (.Tuple elts kk tpos) (.Call (.Name "enumerate" p) [e] [] pos) (wEnum te) := piI (pi_enum hg hm (pa_cons h pa_nil hs) hs) fun σ H R ⟨a, m, q, h1, h2, h3, h4⟩ => by
  refine ⟨a, m, _, h1, h2, h3, fun x m1 v H1 l1 g1 r1 q1 => ?_⟩
  cases x with
  | ref b =>
    cases r1
    cases eb : m1 b with
    | none => simp only [eb] at q1
    | some ob =>
      cases ob with
      | lst xs =>
        simp only [eb] at q1
        obtain ⟨ws, f1, f2⟩ := g1 b _ eb
        refine ⟨b, ws, rfl, SqL.of f1, h4 _ _ m1 _ H1 l1 g1 ⟨fun i H' m' l g e i1 => ?_, fun i H' m' v H2 x l g e e2 y => ?_, fun i H' m' l g e i1 => ?_⟩ q1⟩
        · obtain ⟨ws, f1, f2⟩ := g b _ e
          rw [enumA_len] at i1
          have : i < ws.length := by rw [← f2.length]; exact i1
          exact ⟨ws, ws[i], SqL.of f1, List.getElem?_eq_getElem this⟩
        · obtain ⟨ws, f1, f2⟩ := g b _ e
          obtain ⟨T, u, rfl, hT, rfl, y⟩ := y
          rw [enumA_get] at e2
          cases e3 : xs[i]? with
          | none => rw [e3] at e2; cases e2
          | some x' =>
            rw [e3, Nat.zero_add] at e2
            cases e2
            obtain ⟨v', e4, r4⟩ := f2.get e3
            have := y ws (SqL.of f1)
            rw [e4] at this; cases this
            exact newT_sim g hT (.cons (.int _) (.cons r4 .nil))
        · obtain ⟨ws, f1, f2⟩ := g b _ e
          rw [enumA_len] at i1
          exact ⟨ws, SqL.of f1, by rw [← f2.length]; exact i1⟩
      | _ => simp only [eb] at q1
  | _ => exact q1.elim
end
end Ab

namespace Ab
open PySem PySem.Spec PyProof.Rows L2
section
variable {prog : Program} {w : World} {A : Around} {E : Value → Shared → Prop} {s : Shared}
theorem nextOf_key {C : Type} [DecidableEq C] {knd : KeyKind prog w C} {it d : Addr} {i ep : Nat} {kvs : List (C × Value)} {k : C} {v : Value} {Q : Value → Shared → Prop} (hit : s.heap.IsKeyIter it d i kvs.length ep) (hm : s.heap.DictAt knd d kvs ep) (hx : kvs[i]? = some (k, v))
    (hQ : ∀ key h', knd.is k key = true → h'.IsKeyIter it d (i + 1) kvs.length ep → Heap.SameBut it s.heap h' → Q key { s with heap := h' }) : wpAny (model prog w) A (Builtin.SmallTypes.nextOf (.ref it)) Q E s := by
  obtain ⟨o, ho, hc, hd⟩ := id hit
  obtain ⟨od, es, hod, hcd, hdd, hk, hp, hn⟩ := id hm
  have own : Builtin.Dict_items.ownsTuple "dict_keyiterator" = false := by decide
  have hsz : es.size = kvs.length := by rw [← hp.length]; simp
  have hlt : i < es.size := by
    rw [hsz]
    exact (List.getElem?_eq_some_iff.mp hx).1
  have hkey : knd.is k es[i].key = true := (hp.get? (e := es[i]) (by simp [hlt]) hx).1
  have hit' : (s.heap.update it (Obj.mapFields (·.setIfInBounds 1 (rawInt ((i : Int) + 1))))).IsKeyIter it d (i + 1) kvs.length ep := by
    exact ⟨_, Heap.get?_update_self _ ho (Obj.isFreed_of_fields (Obj.data_mapFields hd _)), (Obj.cls_mapFields ..).trans hc, by rw [Obj.data_mapFields hd]; simp [rawInt]⟩
  unfold Builtin.SmallTypes.nextOf
  refine wpAny_bind (wpAny_callSpecial?_slot (name := Str.ofString "__next__") hit.typeIs F.slot_dict_keyiterator_next (wpAny_call_entry F.slot_dict_keyiterator_next hit.typeIs F.entry_dict_keyiterator_next ?_ (F.args_dict_keyiterator_next_1 _)))
  refine wpAny_bind (wpAny_pure ?_); refine wpAny_bind ?_; refine wpAny_bind ?_
  first
    | refine wpAny_bind (wpAny_typeNameOfWhole_keyiter hit.typeIs (wpAny_pure ?_)); refine wpAny_bind (wpAny_fieldsOf ho hd ?_)
    | refine wpAny_bind (wpAny_typeNameOf_keyiter hit.typeIs (wpAny_pure ?_)); refine wpAny_bind (wpAny_fieldsOf ho hd ?_)
  simp only [own, Bool.false_eq_true, if_false]; show wpAny _ _ (if (Value.ref d == Value.none) = true then _ else _) _ _ s
  rw [if_neg (show ¬ ((Value.ref d == Value.none) = true) from Bool.false_ne_true)]; refine wpAny_bind (wpAny_pure (wpAny_bind (wpAny_dictEntries hod hdd ?_)))
  rw [if_neg (by rw [hsz]; simp)]; refine wpAny_bind (wpAny_pure (wpAny_bind (wpAny_dictEpoch hod hdd ?_)))
  rw [if_neg (by simp)]; refine wpAny_pure ?_
  simp only [show ¬ ((i : Int) < 0) from by omega, if_false, Int.toNat_natCast, Array.getElem?_eq_getElem hlt]; refine wpAny_bind ?_
  first
    | refine wpAny_bind (wpAny_typeNameOfWhole_keyiter hit.typeIs (wpAny_pure ?_)); refine wpAny_bind (wpAny_isOneOf_keyiter hit.typeIs ?_)
    | refine wpAny_bind (wpAny_typeNameOf_keyiter hit.typeIs (wpAny_pure ?_)); refine wpAny_bind (wpAny_isOneOf_keyiter hit.typeIs ?_)
  show wpAny _ _ (setField (.ref it) 1 (rawInt ((i : Int) + 1)) >>= _) _ _ s; refine wpAny_bind (wpAny_setField ho hd (by simp) (wpAny_bind (wpAny_holding ?_)))
  refine wpAny_bind (wpAny_isOneOf_keyiter (s := { s with heap := s.heap.update it (Obj.mapFields (·.setIfInBounds 1 (rawInt ((i : Int) + 1)))) }) hit'.typeIs ?_); show wpAny _ _ (pure es[i].key) _ _ _
  exact wpAny_pure (wpAny_pure ⟨_, rfl, wpAny_pure (hQ _ _ hkey hit' (Heap.SameBut.update ..))⟩)
theorem nextOf_key_end {C : Type} [DecidableEq C] {knd : KeyKind prog w C} {it d : Addr} {i ep : Nat} {kvs : List (C × Value)} {Q : Value → Shared → Prop} (hh : A.handled = none) (hit : s.heap.IsKeyIter it d i kvs.length ep) (hm : s.heap.DictAt knd d kvs ep) (hx : kvs[i]? = none)
    (hE : ∀ h' e, Heap.ExtBut it s.heap h' → (∃ o, h'.get? e = some o ∧ o.cls = .type "StopIteration") → E (.ref e) { s with heap := h' }) : wpAny (model prog w) A (Builtin.SmallTypes.nextOf (.ref it)) Q E s := by
  obtain ⟨o, ho, hc, hd⟩ := id hit
  obtain ⟨od, es, hod, hcd, hdd, hk, hp, hn⟩ := id hm
  have own : Builtin.Dict_items.ownsTuple "dict_keyiterator" = false := by decide
  have hsz : es.size = kvs.length := by rw [← hp.length]; simp
  have hge : es.size ≤ i := by rw [hsz]; simpa using hx
  unfold Builtin.SmallTypes.nextOf
  refine wpAny_bind (wpAny_callSpecial?_slot (name := Str.ofString "__next__") hit.typeIs F.slot_dict_keyiterator_next (wpAny_call_entry F.slot_dict_keyiterator_next hit.typeIs F.entry_dict_keyiterator_next ?_ (F.args_dict_keyiterator_next_1 _)))
  refine wpAny_bind (wpAny_pure ?_); refine wpAny_bind ?_; refine wpAny_bind ?_
  first
    | refine wpAny_bind (wpAny_typeNameOfWhole_keyiter hit.typeIs (wpAny_pure ?_)); refine wpAny_bind (wpAny_fieldsOf ho hd ?_)
    | refine wpAny_bind (wpAny_typeNameOf_keyiter hit.typeIs (wpAny_pure ?_)); refine wpAny_bind (wpAny_fieldsOf ho hd ?_)
  simp only [own, Bool.false_eq_true, if_false]; show wpAny _ _ (if (Value.ref d == Value.none) = true then _ else _) _ _ s
  rw [if_neg (show ¬ ((Value.ref d == Value.none) = true) from Bool.false_ne_true)]; refine wpAny_bind (wpAny_pure (wpAny_bind (wpAny_dictEntries hod hdd ?_)))
  rw [if_neg (by rw [hsz]; simp)]; refine wpAny_bind (wpAny_pure (wpAny_bind (wpAny_dictEpoch hod hdd ?_)))
  rw [if_neg (by simp)]; refine wpAny_pure ?_
  simp only [show ¬ ((i : Int) < 0) from by omega, if_false, Int.toNat_natCast, Array.getElem?_eq_none hge]; refine wpAny_bind ?_
  first
    | refine wpAny_bind (wpAny_typeNameOfWhole_keyiter hit.typeIs (wpAny_pure ?_)); show wpAny _ _ (setField (.ref it) 0 .none >>= _) _ _ s
    | refine wpAny_bind (wpAny_typeNameOf_keyiter hit.typeIs (wpAny_pure ?_)); show wpAny _ _ (setField (.ref it) 0 .none >>= _) _ _ s
  refine wpAny_bind (wpAny_setField ho hd (by simp) ?_); show wpAny _ _ (newExc (.type "StopIteration") [] >>= _) _ _ _
  refine wpAny_bind ?_; simp only [newExc, newTuple]; refine wpAny_bind (wpAny_newObj_type ?_ (by size_fits))
  refine wpAny_bind (m := firstArgMember _ _) (wpAny_of_eq (a := Value.none) (by first | rfl | (simp only [firstArgMember]; rfl)) (wpAny_newObj_type ?_ (by size_fits)))
  simp only [raiseNew]; refine wpAny_bind (wpAny_handled ?_)
  first
    | rw [show A.in1.handled = none from hh]
    | rw [hh]
  refine wpAny_bind (wpAny_pure (wpAny_throw ?_)); exact hE _ _ (((Heap.SameBut.update ..).extBut.push _).push _) ⟨_, Heap.get?_push_size _ rfl, rfl⟩
theorem draws_keys {C : Type} [DecidableEq C] {knd : KeyKind prog w C} (hh : A.handled = none) (it d : Addr) (hne : d ≠ it) (kvs : List (C × Value)) (ep : Nat) :
    Draws prog w A it [it, d] kvs.length (fun i v => ∃ k x, kvs[i]? = some (k, x) ∧ knd.is k v = true) (fun i h => h.IsKeyIter it d i kvs.length ep ∧ h.DictAt knd d kvs ep) where
  live := fun _ _ st => let ⟨o, ho, _⟩ := st.1; ⟨o, ho⟩
  frame := fun _ _ _ st hk => ⟨st.1.at fun o e => hk it (by simp) o e, let ⟨od, es, hod, r⟩ := st.2; ⟨od, es, hk d (by simp) _ hod, r⟩⟩
  item := fun i s Q E hi st hQ => by
    refine nextOf_key st.1 st.2 (k := kvs[i].1) (v := kvs[i].2) (by simp [hi]) fun key h' hk hit' hs' => ?_
    exact hQ _ h' s.toks ⟨_, _, List.getElem?_eq_getElem hi, hk⟩ ⟨hit', let ⟨od, es, hod, r⟩ := st.2; ⟨od, es, (hs'.2 d hne).trans hod, r⟩⟩ hs'
  done := fun s Q E st hE => nextOf_key_end hh st.1 st.2 (by simp) hE
theorem meets_enum1 {v : Value} {o : Obj} {H : Heap → Prop} (B : Begins v o H) : Meets (Builtin.«enumerate.__new__» ⟨[.type "enumerate", v], []⟩) (fun _ R s => H s.heap ∧ R (.ok (.ret (.ref (s.heap.push o).objs.size))) { s with heap := (s.heap.push o).push { cls := .type "enumerate", data := .fields #[.none, .bool false, .ref s.heap.objs.size, rawInt 0, .none, .none] } }) :=
  .of_wp fun prog w A R s h => by
    obtain ⟨hp, g, d, tk, os⟩ := s
    obtain ⟨h1, h⟩ := h
    have hsub := sub_enumerate
    have q1 : ∀ {A' : Around} {E : Value → Shared → Prop} {Q : Value → Shared → Prop}, Q (.ref hp.objs.size) ⟨hp.push o, g, d, tk, os⟩ → wpAny (model prog w) A' (pyIter v) Q E ⟨hp, g, d, tk, os⟩ := fun q => B.iter prog w _ _ ⟨hp, g, d, tk, os⟩ _ h1 q
    wp_walk using q1
    refine wpAny_stack_any fun st => wpAny_pure ?_
    split
    · rename_i c _ _ _ _ _
      cases (c == Value.type "enumerate") <;> (wp_walk using q1; exact ⟨_, rfl, h⟩)
    · wp_walk using q1
      exact ⟨_, rfl, h⟩
end
end Ab

namespace Ab
open PySem PySem.Spec PyProof.Rows L2
section
variable {prog : Program} {w : World} {A : Around} {E : Value → Shared → Prop} {s : Shared}
theorem call_enum1 {v : Value} {o : Obj} {H : Heap → Prop} {Q : Value → Shared → Prop} (B : Begins v o H) (h1 : H s.heap)
    (h : ∀ h', IsEnum h' (s.heap.objs.size + 1) s.heap.objs.size 0 .none → h'.get? s.heap.objs.size = some o → h'.objs.size = s.heap.objs.size + 2 → (∀ b o, s.heap.get? b = some o → h'.get? b = some o) → Q (.ref (s.heap.objs.size + 1)) { s with heap := h' }) : wpAny (model prog w) A (call (.type "enumerate") [v]) Q E s := by
  refine callType_new F.called_enumerate (by decide) (F.typeCall_enumerate_1 _) (F.newCall_enumerate_1 _) (fun obj => F.args_object_init_2 obj _) F.entry_enumerate_new (meets_enum1 B) ⟨h1, ?_⟩
  have hz : (s.heap.push o).objs.size = s.heap.objs.size + 1 := Heap.size_push ..
  have he := Heap.get?_push_size (s.heap.push o) (o := { cls := .type "enumerate", data := .fields #[.none, .bool false, .ref s.heap.objs.size, rawInt 0, .none, .none] }) rfl
  show _ ∧ _
  rw [hz] at he ⊢
  exact ⟨⟨_, he, rfl⟩, h _ he (Heap.get?_push_of_some _ (Heap.get?_push_size _ B.free)) (by rw [Heap.size_push, hz]) fun b o x => Heap.get?_push_of_some _ (Heap.get?_push_of_some _ x)⟩
theorem begins_dict {d : Addr} {od : Obj} {es : Array DictEntry} {ep : Nat} (hd : (d == sysModules) = false) (hc : od.ExactDict) (hdat : od.data = .dict es ep) :
    Begins (.ref d) { cls := .type "dict_keyiterator", data := .fields #[.ref d, .int 0 0, .int es.size 0, .int ep 0] } (fun h => h.get? d = some od) where
  iter := fun prog w A E s Q ho h => iter_keys hd ho hc hdat h
  keeps := fun h h' x hk => hk _ _ x
  free := rfl
end
def Itke (d : Addr) (o : Obj) (kvs : List (Key × V)) : It :=
  ⟨fun i H => H d = some (.frz o (.dK kvs)) ∧ i < kvs.length, fun i H x H' => ∃ T k v, kvs[i]? = some (k, v) ∧ x = .ref T ∧ H T = none ∧ H' = L2.upd H T (.tup [.int (i : Nat), kV k]), fun i H => H d = some (.frz o (.dK kvs)) ∧ kvs.length ≤ i⟩
theorem turn_ekeys {P : Program} {w : World} {K : PySem.W.Frag} {d : Addr} {o : Obj} {es : Array DictEntry} {ep : Nat} {kvs : List (Key × V)} {elts : List Expr} {kk : Nat} {tpos : Pos} (e it : Addr) (hod : o.data = .dict es ep) :
    Turn P w K (.Tuple elts kk tpos) (Itke d o kvs) [e, it] e (fun i h => (∃ old, IsEnum h e it ((i : Nat) : Int) old) ∧ h.IsKeyIter it d i kvs.length ep ∧ e ≠ it ∧ e ≠ d ∧ d ≠ it) where
  mem := by simp
  obj := fun i h st b hb => by
    obtain ⟨⟨old, he⟩, ⟨oi, ho, hc, hd⟩, _⟩ := st
    rcases List.mem_cons.mp hb with rfl | hb
    · exact ⟨_, he, fun v q => nomatch q⟩
    · rw [List.mem_singleton.mp hb]
      exact ⟨oi, ho, fun v q => by rw [hd] at q; cases q⟩
  keep := fun i h h' st k => let ⟨⟨old, he⟩, hi, r⟩ := st; ⟨⟨old, k e (by simp) _ he⟩, hi.at fun o q => k it (by simp) o q, r⟩
  item := by
    intro X hP hw hK hc i pins s σ H E I hf st hg
    subst hP hw hK
    obtain ⟨⟨old, he⟩, hit, n1, n2, n3⟩ := st
    obtain ⟨hd, hi⟩ := hg
    obtain ⟨hs, hgd, hx, es', ep', vs, hdt, hsz, kv, hm⟩ := I.frzK hd
    obtain ⟨rfl, rfl⟩ := dict_ep hod hdt
    have hl : kvs.length = vs.length := Paired.length kv
    have hel : e < s.heap.objs.size := Heap.lt_size he
    have hil : it < s.heap.objs.size := by obtain ⟨_, q, _⟩ := hit; exact Heap.lt_size q
    rw [hl] at hit
    have D := draws_keys (prog := X.prog) (w := X.w) (A := X.A.in1) (knd := mixKind X.prog X.w) (show X.A.in1.handled = none from I.ok.hd hc) it d n3 vs ep'
    refine wpAny_pyNext_enum_itemD D he ⟨hit, hm⟩ (by omega) n1 (by simp [n1, n2]) fun x h' tk hP ho st' hT hz hk => ?_
    obtain ⟨k, u, hku, hkey⟩ := hP
    obtain ⟨v, hv⟩ : ∃ v, kvs[i]? = some (k, v) := by
      obtain ⟨⟨k2, v⟩, hkv⟩ : ∃ p, kvs[i]? = some p := ⟨kvs[i], List.getElem?_eq_getElem hi⟩
      obtain ⟨u2, hu2, _⟩ := kv_get kv hkv
      rw [hku] at hu2
      cases hu2
      exact ⟨v, hkv⟩
    refine ⟨_, rfl, wpAny_letOwnedTupleGo_enum (s := { s with heap := h', toks := tk + 1 }) ho fun h'' he' sb => ?_⟩
    have hT2 : h''.get? s.heap.objs.size = some { cls := .type "tuple", data := .seq #[.int i tk, x] } := (sb.2 _ (Nat.ne_of_gt hel)).trans hT
    have new : ObjOk X.prog X.w (L2.upd H s.heap.objs.size (.tup [.int (i : Nat), kV k])) h'' s.heap.objs.size (.tup [.int (i : Nat), kV k]) := by
      exact ⟨by show 2 ≤ sizeLine; decide, [.int i tk, x], .cons ⟨_, rfl⟩ (.cons (relV_key hkey) .nil), ⟨_, hT2, rfl, _, rfl⟩⟩
    have I1 : Inv X pins σ (L2.upd H s.heap.objs.size (.tup [.int (i : Nat), kV k])) { s with heap := h'', toks := tk + 1 } := by
      exact I.turnedNew (ch := [e, it]) (fun b ob hb q => (sb.2 b (fun z => hb (by simp [z]))).trans (hk b ob (fun z => hb (by simp [z])) (fun z => hb (by simp [z])) q)) hf (Nat.le_refl _) new
    refine ⟨.ref s.heap.objs.size, _, I1, rfl, ⟨_, k, v, hv, rfl, I.hok.fresh (Nat.le_refl _), rfl⟩, ⟨⟨x, ?_⟩, ?_, n1, n2, n3⟩, fun b hb => ?_⟩
    · rw [show ((i + 1 : Nat) : Int) = (i : Int) + 1 by omega]
      exact he'
    · rw [hl]
      exact st'.1.at fun o q => (sb.2 it (Ne.symm n1)).trans q
    · have hb' : b < s.heap.objs.size := by
        rcases List.mem_cons.mp hb with rfl | hb
        · exact hel
        · rw [List.mem_singleton.mp hb]; exact hil
      rw [upd_ne (Nat.ne_of_lt hb')]
      exact (hf b hb).1
  done := by
    intro X hP hw hK hc i pins s σ H E I hf st hg
    subst hP hw hK
    obtain ⟨⟨old, he⟩, hit, n1, n2, n3⟩ := st
    obtain ⟨hd, hi⟩ := hg
    obtain ⟨hs, hgd, hx, es', ep', vs, hdt, hsz, kv, hm⟩ := I.frzK hd
    obtain ⟨rfl, rfl⟩ := dict_ep hod hdt
    have hl : kvs.length = vs.length := Paired.length kv
    obtain ⟨f0, f1, f2, f3, f4, f5⟩ := hf it (by simp)
    have hlt : vs[i]? = none := List.getElem?_eq_none (by omega)
    have hT : s.TypeIs (.ref e) "enumerate" := ⟨_, he, rfl⟩
    rw [hl] at hit
    unfold pyNext
    refine wpAny_bind (wpAny_attempt (wpAny_callSpecial?_slot (name := Str.ofString "__next__") hT F.slot_enumerate_next (wpAny_call_entry F.slot_enumerate_next hT F.entry_enumerate_next ?_ (F.args_enumerate_next_1 _))))
    show wpAny _ _ (field (.ref e) 2 >>= _) _ _ _
    refine wpAny_bind (wpAny_field he rfl (x := .ref it) rfl (wpAny_bind (nextOf_key_end (I.ok.hd hc) hit hm hlt fun h' x hx' hs' => ?_)))
    obtain ⟨ox, ho, hcx⟩ := hs'
    refine wpAny_bind (wpAny_isInstance (T := "StopIteration") (b := true) ⟨ox, ho, hcx⟩ isSubtype_stop (wpAny_pure ⟨rfl, ?_⟩))
    exact I.turned (t' := s.toks) (fun b o hb q => hx' b o hb q) f0 f1 f3 f4 f5
  self := fun A i s Q E st h => let ⟨⟨_, he⟩, _⟩ := st; wpAny_pyIter_enum he h
def iEnumD (td : TE) : TI := fun σ H R => td σ H fun x H1 => ∃ d o kvs, [x] = [V.ref d] ∧ H1 d = some (.frz o (.dK kvs)) ∧ R (Itke d o kvs) H1
theorem pi_enumD {X : Cx} {e : Expr} {td : TE} {p pos tpos : Pos} {elts : List Expr} {kk : Nat} (hg : Gl X "enumerate") (hm : X.mg "enumerate" = none) (he : PE X e td) (hs : starEach [e] X.env = [(false, eval e X.env)] := by rfl) :
    PI X (.Tuple elts kk tpos) (.Call (.Name "enumerate" p) [e] [] pos) (iEnumD td) := by
  refine ⟨fun pins s σ H R I h => ?_⟩
  refine Call_ (ld_blt I hg hm boot_enumerate (PyProof.Rows.callWith_type1 (thn ((pa_cons he pa_nil hs).run pos pins s σ H (fun vs H1 => ∃ d o kvs, vs = [V.ref d] ∧ H1 d = some (.frz o (.dK kvs)) ∧ R (Itke d o kvs) H1) I h) fun us s1 ⟨vs, H1, I1, r1, d, o, kvs, ex, hd, q⟩ => ?_) hs rfl))
  subst ex
  cases r1 with
  | cons r rr =>
    cases rr
    cases r
    obtain ⟨n1, hgd, hx, es, ep, vs, hdt, hsz, kv, hm⟩ := I1.frzK hd
    have hdl : d < s1.heap.objs.size := Heap.lt_size hgd
    refine call_enum1 (begins_dict n1 hx hdt) hgd fun h' he hit hsz2 hk => wpAny_pyIter_enum he ?_
    have I2 : Inv X pins σ H1 { s1 with heap := h' } := I1.kept (t' := s1.toks) hk
    refine ⟨s1.heap.objs.size + 1, [s1.heap.objs.size + 1, s1.heap.objs.size], _, _, H1, rfl, I2, turn_ekeys (s1.heap.objs.size + 1) s1.heap.objs.size hdt, ⟨⟨.none, he⟩, ⟨_, hit, rfl, by rw [hsz]; rfl⟩, Nat.succ_ne_self _, Nat.ne_of_gt (Nat.lt_succ_of_lt hdl), Nat.ne_of_lt hdl⟩, fun b hb => ?_, q⟩
    have hle : s1.heap.objs.size ≤ b := by
      rcases List.mem_cons.mp hb with rfl | hb
      · exact Nat.le_add_right _ _
      · rw [List.mem_singleton.mp hb]; exact Nat.le_refl _
    exact I1.fpOk hle (I1.hok.fresh hle)
def wEnumD (te : ATE) : ATI := fun a m q => te a m fun x m1 => lkAt x m1 fun kvs => q (enumA 0 (kvs.map fun kv => kA kv.1)) (fun _ => True) m1
theorem ai_enumD {X : Cx} {e : Expr} {te : ATE} {p pos tpos : Pos} {elts : List Expr} {kk : Nat} (hg : Gl X "enumerate") (hm : X.mg "enumerate" = none) (h : AE X e te) (hs : starEach [e] X.env = [(false, eval e X.env)] := by rfl) :
    AI X (.Tuple elts kk tpos) (.Call (.Name "enumerate" p) [e] [] pos) (wEnumD te) := piI (pi_enumD hg hm h hs) fun σ H R ⟨a, m, q, h1, h2, h3, h4⟩ => by
  refine ⟨a, m, _, h1, h2, h3, fun x m1 v H1 l1 g1 r1 q1 => ?_⟩
  obtain ⟨d, kvs, rfl, em, q1⟩ := lkAt_at q1
  obtain ⟨od, ws, f1, f2⟩ := g1 d _ em
  have hl : kvs.length = ws.length := Paired.length f2
  cases r1
  refine ⟨d, od, ws, rfl, f1, h4 _ _ m1 _ H1 l1 g1 ⟨fun i H' m' l g _ i1 => ?_, fun i H' m' v H2 x l g _ e2 y => ?_, fun i H' m' l g _ i1 => ?_⟩ q1⟩
  · rw [enumA_len, List.length_map] at i1
    exact ⟨l.lkd _ _ _ f1, by rw [← hl]; exact i1⟩
  · obtain ⟨T, k, u, e3, rfl, hT, rfl⟩ := y
    obtain ⟨x', e4, s⟩ := simK_get f2 e3
    rw [enumA_get, List.getElem?_map, e4, Nat.zero_add] at e2
    cases e2
    exact newT_sim g hT (.cons (.int _) (.cons (simA_key k) .nil))
  · rw [enumA_len, List.length_map] at i1
    exact ⟨l.lkd _ _ _ f1, by rw [← hl]; exact i1⟩
end Ab

namespace Ab
open PySem PySem.Spec PyProof.Rows L2
section
variable {kx vx t0 i0 t1 i1 : Expr} {f0 f1 : List Expr} {scope : Scope} {pos : Pos}
abbrev dc2X (kx vx t0 i0 t1 i1 : Expr) (f0 f1 : List Expr) (scope : Scope) (pos : Pos) : Expr := .DictComp kx vx [⟨t0, i0, f0, 0⟩, ⟨t1, i1, f1, 0⟩] scope pos
def testAll (cs : List Expr) (env : Env) : Sem Bool := forIn cs true fun c r => if r = true then do let ok ← isTrue c env (eval c env); pure (ForInStep.yield ok) else pure (ForInStep.yield r)
theorem dc2_turn0 (it acc : Value) (env : Env) : compTurn (dc2X kx vx t0 i0 t1 i1 f0 f1 scope pos) 0 it acc env = (do
    standAt i0.pos
    match ← pyNext it with
    | none => pure (.done .next)
    | some v =>
      letOwnedTupleGo t0 it v
      assign t0 env v
      let ok ← testAll f0 env
      if ok then
        let x ← eval i1 env
        standAt i1.pos
        let x ← foldedSetIterable i1 env x
        let _ ← runOwn (.compStart (dc2X kx vx t0 i0 t1 i1 f0 f1 scope pos) 1 (← holding [x] (pyIter x)) acc env) env
      again (.compLoop (dc2X kx vx t0 i0 t1 i1 f0 f1 scope pos) 0 it acc env)) := by rfl
theorem dc2_turn1 (it : Value) (D : Addr) (env : Env) : compTurn (dc2X kx vx t0 i0 t1 i1 f0 f1 scope pos) 1 it (.ref D) env = (do
    standAt i1.pos
    match ← pyNext it with
    | none => pure (.done .next)
    | some v =>
      letOwnedTupleGo t1 it v
      assign t1 env v
      let ok ← testAll f1 env
      if ok then
        (do
          let a ← eval kx env
          let b ← holding [a] (eval vx env)
          standAt { kx.pos with endLine := vx.pos.endLine, endCol := vx.pos.endCol }
          holding [a, b] (dictSet D a b))
      again (.compLoop (dc2X kx vx t0 i0 t1 i1 f0 f1 scope pos) 1 it (.ref D) env)) := by rfl
variable {prog : Program} {w : World} {A : Around} {R : Result → Shared → Prop} {s : Shared} {it acc : Value} {env : Env}
theorem dc2_loop0 (hs : ∀ x, foldedSetIterable i1 env x = pure x) (I : Nat → Shared → Prop)
    (turn : ∀ n s, I n s → wpAny (model prog w) A (pyNext it) (fun r s1 => match r with
      | none => R (.ok .next) s1
      | some v => wpAny (model prog w) A (letOwnedTupleGo t0 it v) (fun _ s2 => wpAny (model prog w) A (assign t0 env v) (fun _ s3 => wpAny (model prog w) A (testAll f0 env) (fun ok s4 =>
          if ok = true then wpAny (model prog w) A (eval i1 env) (fun x s5 => wpAny (model prog w) A (pyIter x) (fun j s6 =>
            codeAny (model prog w) A (.compStart (dc2X kx vx t0 i0 t1 i1 f0 f1 scope pos) 1 j acc env) (fun r s' => match r with
              | .ok _ => ∃ m, m < n ∧ I m s'
              | .error _ => False) s6) (notedBy (model prog w) A env fun e s' => R (.error e) s') s5) (notedBy (model prog w) A env fun e s' => R (.error e) s') s4
          else ∃ m, m < n ∧ I m s4) (notedBy (model prog w) A env fun e s' => R (.error e) s') s3) (notedBy (model prog w) A env fun e s' => R (.error e) s') s2) (notedBy (model prog w) A env fun e s' => R (.error e) s') s1) (notedBy (model prog w) A env fun e s' => R (.error e) s') s)
    (n : Nat) (h : I n s) : codeAny (model prog w) A (.compLoop (dc2X kx vx t0 i0 t1 i1 f0 f1 scope pos) 0 it acc env) R s := by
  refine codeAny_loop rfl I (fun n s hI => ?_) n h
  show wpAny _ A ((compTurn (dc2X kx vx t0 i0 t1 i1 f0 f1 scope pos) 0 it acc env).onRaise (fun x => do noteFrame x env; theTreesLotGoes x)) _ _ s
  refine wpAny_noted ?_
  rw [dc2_turn0]
  refine wpAny_bind (wpAny_standAt (wpAny_bind (wpAny_mono (turn n s hI) (fun r s1 h1 => ?_) fun _ _ z => z)))
  cases r with
  | none => exact wpAny_pure h1
  | some v =>
    refine wpAny_bind (wpAny_mono h1 (fun _ s2 h2 => wpAny_bind (wpAny_mono h2 (fun _ s3 h3 => wpAny_bind (wpAny_mono h3 (fun ok s4 h4 => ?_) fun _ _ z => z)) fun _ _ z => z)) fun _ _ z => z)
    cases ok with
    | false => exact wpAny_pure ⟨rfl, h4⟩
    | true =>
      refine wpAny_bind (wpAny_mono h4 (fun x s5 h5 => wpAny_bind (wpAny_standAt (wpAny_bind (wpAny_of_eq (hs x) (wpAny_bind (wpAny_holding (wpAny_mono h5 (fun j s6 h6 => ?_) fun _ _ z => z))))))) fun _ _ z => z)
      refine wpAny_bind (wpAny_runOwn ?_)
      rw [Around.mark_none]
      refine codeAny_mono h6 fun r s' hr => ?_
      cases r with
      | error e => exact hr.elim
      | ok f => first | exact wpAny_pure ⟨rfl, hr⟩ | exact wpAny_bind (wpAny_pure (wpAny_pure ⟨rfl, hr⟩))
theorem dc2_loop1 {D : Addr} (I : Nat → Shared → Prop)
    (turn : ∀ n s, I n s → wpAny (model prog w) A (pyNext it) (fun r s1 => match r with
      | none => R (.ok .next) s1
      | some v => wpAny (model prog w) A (letOwnedTupleGo t1 it v) (fun _ s2 => wpAny (model prog w) A (assign t1 env v) (fun _ s3 => wpAny (model prog w) A (testAll f1 env) (fun ok s4 =>
          if ok = true then wpAny (model prog w) A (eval kx env) (fun a s5 => wpAny (model prog w) A (eval vx env) (fun b s6 =>
            wpAny (model prog w) A (dictSet D a b) (fun _ s7 => ∃ m, m < n ∧ I m s7) (notedBy (model prog w) A env fun e s' => R (.error e) s') s6) (notedBy (model prog w) A env fun e s' => R (.error e) s') s5) (notedBy (model prog w) A env fun e s' => R (.error e) s') s4
          else ∃ m, m < n ∧ I m s4) (notedBy (model prog w) A env fun e s' => R (.error e) s') s3) (notedBy (model prog w) A env fun e s' => R (.error e) s') s2) (notedBy (model prog w) A env fun e s' => R (.error e) s') s1) (notedBy (model prog w) A env fun e s' => R (.error e) s') s)
    (n : Nat) (h : I n s) : codeAny (model prog w) A (.compLoop (dc2X kx vx t0 i0 t1 i1 f0 f1 scope pos) 1 it (.ref D) env) R s := by
  refine codeAny_loop rfl I (fun n s hI => ?_) n h
  show wpAny _ A ((compTurn (dc2X kx vx t0 i0 t1 i1 f0 f1 scope pos) 1 it (.ref D) env).onRaise (fun x => do noteFrame x env; theTreesLotGoes x)) _ _ s
  refine wpAny_noted ?_
  rw [dc2_turn1]
  refine wpAny_bind (wpAny_standAt (wpAny_bind (wpAny_mono (turn n s hI) (fun r s1 h1 => ?_) fun _ _ z => z)))
  cases r with
  | none => exact wpAny_pure h1
  | some v =>
    refine wpAny_bind (wpAny_mono h1 (fun _ s2 h2 => wpAny_bind (wpAny_mono h2 (fun _ s3 h3 => wpAny_bind (wpAny_mono h3 (fun ok s4 h4 => ?_) fun _ _ z => z)) fun _ _ z => z)) fun _ _ z => z)
    cases ok with
    | false => exact wpAny_pure ⟨rfl, h4⟩
    | true => exact wpAny_bind (wpAny_bind (wpAny_mono h4 (fun a s5 h5 => wpAny_bind (wpAny_holding (wpAny_mono h5 (fun b s6 h6 => wpAny_bind (wpAny_standAt (wpAny_holding (wpAny_mono h6 (fun _ s7 h7 => wpAny_pure ⟨rfl, h7⟩) fun _ _ z => z)))) fun _ _ z => z))) fun _ _ z => z))
theorem dc2_start1 (h0 : codeAny (model prog w) A (.compLoop (dc2X kx vx t0 i0 t1 i1 f0 f1 scope pos) 1 it acc env) R s)
    (h : wpAny (model prog w) A (pyIter it) (fun j s' => codeAny (model prog w) A (.compLoop (dc2X kx vx t0 i0 t1 i1 f0 f1 scope pos) 1 j acc env) R s') (notedBy (model prog w) A env fun x s' => R (.error x) s') s) :
    codeAny (model prog w) A (.compStart (dc2X kx vx t0 i0 t1 i1 f0 f1 scope pos) 1 it acc env) R s := by
  refine codeAny_of_tree ?_
  show wpAny _ _ ((compStart (dc2X kx vx t0 i0 t1 i1 f0 f1 scope pos) 1 it acc env).onRaise (fun x => do noteFrame x env; standAt theWindowsPlace)) _ _ s
  refine wpAny_notedAt ?_
  unfold compStart
  show wpAny _ _ (ask >>= _) _ _ s
  refine wpAny_bind (wpAny_askSetting (wpAny_ite ?_))
  split
  · first | exact wpAny_bind (wpAny_pure (wpAny_pure (And.intro rfl h0))) | exact wpAny_pure (And.intro rfl h0)
  · first
      | exact wpAny_bind (wpAny_rule (wpAny_bind (wpAny_standAt (wpAny_bind (wpAny_mono h (fun j s' z => wpAny_pure (And.intro rfl z)) fun _ _ x => x)))))
      | (refine wpAny_bind (wpAny_rule ?_); show wpAny _ _ (standAt i1.pos >>= _) _ _ s; exact wpAny_bind (wpAny_standAt (wpAny_bind (wpAny_mono h (fun j s' z => wpAny_pure (And.intro rfl z)) fun _ _ x => x))))
end
end Ab

namespace Ab
open PySem PySem.Spec PyProof.Rows L2
def tDc2 (wi : TI) (g : TG) (tt : TT) (wj : TI) (h : TG) (tu : TT) (tk tv : TE) (vs us : List Nat) : TE := fun σ H Q => wi σ H fun J H1 => ∀ D, H1 D = none → ∃ W : Nat → Nat → Hp → Prop, (∃ m, W 0 m (L2.upd H1 D (.dK []))) ∧ ∀ i m H, W i m H →
  (J.stop i H ∧ Q (.ref D) H) ∨ (J.go i H ∧ ∃ N : Hp → Prop, (∀ H', N H' → ∃ m', m' < m ∧ W (i + 1) m' H') ∧ ∀ x H', J.yld i H x H' → g x (L2.wipe σ vs) H' fun σ2 H2 => L2.wipe σ2 vs = L2.wipe σ vs ∧ tt σ2 H2 fun b H3 =>
    if b = true then wj σ2 H3 fun J2 H4 => ∃ U : Nat → Nat → Hp → Prop, (∃ m, U 0 m H4) ∧ ∀ j k H, U j k H →
      (J2.stop j H ∧ N H) ∨ (J2.go j H ∧ ∃ M : Hp → Prop, (∀ H', M H' → ∃ k', k' < k ∧ U (j + 1) k' H') ∧ ∀ x H', J2.yld j H x H' → h x (L2.wipe σ2 us) H' fun σ3 H5 => L2.wipe σ3 us = L2.wipe σ2 us ∧ tu σ3 H5 fun b H6 =>
        if b = true then tk σ3 H6 fun y H7 => tv σ3 H7 fun z H8 => ∃ kvs k, y = kV k ∧ H8 D = some (.dK kvs) ∧ kvs.length < sizeLine ∧ M (L2.upd H8 D (.dK (putK kvs k z))) else M H6)
    else N H3)
section
variable {X : Cx} {kx vx tg iter th jter : Expr} {fs gs : List Expr} {scope : Scope} {own : List (Str × Nat)} {us : List Nat} {pos : Pos} {wi wj : TI} {g h : TG} {tt tu : TT} {tk tv : TE}
structure Dc2 (X : Cx) (kx vx tg iter th jter : Expr) (fs gs : List Expr) (scope : Scope) (own : List (Str × Nat)) (us : List Nat) (wi wj : TI) (g h : TG) (tt tu : TT) (tk tv : TE) : Prop where
  calm : X.calm = true
  nd : X.N.Nodup
  i : PI X tg iter wi
  ok : BlkOk X.N X.env.scope scope own
  sub : ∀ i ∈ us, i ∈ own.map (·.2)
  g : ∀ (s : Shared) (H : Hp) (C : Addr) (cl : List (Str × Addr)) (fp : List Addr), PG (X.blk s H scope (compEnvC scope cl C X.env) fp) tg g
  t : ∀ (s : Shared) (H : Hp) (C : Addr) (cl : List (Str × Addr)) (fp : List Addr), PTs (X.blk s H scope (compEnvC scope cl C X.env) fp) fs tt
  k : ∀ (s : Shared) (H : Hp) (C : Addr) (cl : List (Str × Addr)) (fp : List Addr), PE (X.blk s H scope (compEnvC scope cl C X.env) fp) kx tk
  v : ∀ (s : Shared) (H : Hp) (C : Addr) (cl : List (Str × Addr)) (fp : List Addr), PE (X.blk s H scope (compEnvC scope cl C X.env) fp) vx tv
  fold : ∀ x, foldedSetIterable iter X.env x = pure x
  j : ∀ (s : Shared) (H : Hp) (C : Addr) (cl : List (Str × Addr)) (fp : List Addr), PI (X.blk s H scope (compEnvC scope cl C X.env) fp) th jter wj
  h : ∀ (s : Shared) (H : Hp) (C : Addr) (cl : List (Str × Addr)) (fp : List Addr), PG (X.blk s H scope (compEnvC scope cl C X.env) fp) th h
  u : ∀ (s : Shared) (H : Hp) (C : Addr) (cl : List (Str × Addr)) (fp : List Addr), PTs (X.blk s H scope (compEnvC scope cl C X.env) fp) gs tu
  fold2 : ∀ env x, foldedSetIterable jter env x = pure x
theorem dc2_main (Z : Dc2 X kx vx tg iter th jter fs gs scope own us wi wj g h tt tu tk tv) {pins : List (Addr × Obj)} {s : Shared} {σ : L2.St} {H : Hp} {Q : VK} {p2 : Pos} {use : Option (Value → Sem Unit)} {Qf : Value → Shared → Prop} (I : Inv X pins σ H s)
    (want : tDc2 wi g tt wj h tu tk tv (own.map (·.2)) us σ H Q)
    (hRR : ∀ D C s' m H', Inv X pins σ H' s' → Q (.ref D) H' → s'.heap.Ns C m → FpOk X pins H' C → compPost (model X.prog X.w) X.A X.xe use Qf (.ref D) C (.ok .next) s') :
    wpAny (model X.prog X.w) X.A (comprehension (dc2X kx vx tg iter th jter fs gs scope pos) scope X.env p2 newDict false (eval iter X.env) use) Qf X.xe s := by
  have ok := Z.ok
  have hc := Z.calm
  have hfree : ∀ y ∈ scope.names, y.2 = .free → ∃ c, X.env.cells.lookup y.1 = some c := fun y hy e => (ok.free y hy e).elim (fun k => I.ok.has _ (.inl k)) fun k => I.ok.has _ (.inr k)
  refine wpAny_comprehension_free (use := use) rfl Z.fold (closure_ok hfree) ok.kind (fun y hy e => by rw [ok.uniq y hy, e]) (thn (Z.i.run pins s σ H _ I want) fun xv s1 hx => thn hx fun itv s2 h2 => ?_)
  obtain ⟨it, fp, tn, J, H2, e, I2, T, st2, f2, q⟩ := h2
  subst e
  refine wpAny_newObj_type (newEnv_comp ?_)
  generalize hD : s2.heap.objs.size = D
  have hDn : H2 D = none := I2.hok.fresh (Nat.le_of_eq hD)
  obtain ⟨W, ⟨m0, w0⟩, turn⟩ := q D hDn
  generalize hs3 : ({ s2 with heap := s2.heap.push { cls := .type "dict", data := .dict #[] } } : Shared) = s3
  have h3 : s3.heap = s2.heap.push { cls := .type "dict", data := .dict #[] } := by rw [← hs3]
  have I3 : Inv X pins σ (L2.upd H2 D (.dK [])) s3 := by
    rw [← hs3]
    refine I2.laid (t' := s2.toks) (fun b o e => Heap.get?_push_of_some _ e) (Nat.le_of_eq hD) ?_
    exact hD ▸ dk_empty s2.heap I2.big
  have low : ∀ b ∈ fp, b < s2.heap.objs.size := fun b hb => let ⟨o, e, _⟩ := T.obj _ _ st2 b hb; Heap.lt_size e
  have f3 : ∀ b ∈ fp, FpOk X pins (L2.upd H2 D (.dK [])) b ∧ b < s3.heap.objs.size := fun b hb => by
    have hlt := low b hb
    exact ⟨⟨by rw [upd_ne (by rw [← hD]; exact Nat.ne_of_lt hlt)]; exact (f2 b hb).1, (f2 b hb).2⟩, by rw [h3, Heap.size_push]; exact Nat.lt_succ_of_lt hlt⟩
  have st3 : tn 0 s3.heap := T.keep _ _ _ st2 fun b _ o e => by rw [h3]; exact Heap.get?_push_of_some _ e
  have I4 := block_start I3 ok Z.nd f3
  have pg := Z.g s3 (L2.upd H2 D (.dK [])) s3.heap.objs.size (cellsFrom (s3.heap.objs.size + 1) scope.names (cloFrom X.env.cells scope.names [])) fp
  have pt := Z.t s3 (L2.upd H2 D (.dK [])) s3.heap.objs.size (cellsFrom (s3.heap.objs.size + 1) scope.names (cloFrom X.env.cells scope.names [])) fp
  have pk := Z.k s3 (L2.upd H2 D (.dK [])) s3.heap.objs.size (cellsFrom (s3.heap.objs.size + 1) scope.names (cloFrom X.env.cells scope.names [])) fp
  have pv := Z.v s3 (L2.upd H2 D (.dK [])) s3.heap.objs.size (cellsFrom (s3.heap.objs.size + 1) scope.names (cloFrom X.env.cells scope.names [])) fp
  have pj := Z.j s3 (L2.upd H2 D (.dK [])) s3.heap.objs.size (cellsFrom (s3.heap.objs.size + 1) scope.names (cloFrom X.env.cells scope.names [])) fp
  have ph := Z.h s3 (L2.upd H2 D (.dK [])) s3.heap.objs.size (cellsFrom (s3.heap.objs.size + 1) scope.names (cloFrom X.env.cells scope.names [])) fp
  have pu := Z.u s3 (L2.upd H2 D (.dK [])) s3.heap.objs.size (cellsFrom (s3.heap.objs.size + 1) scope.names (cloFrom X.env.cells scope.names [])) fp
  show codeAny _ _ (.compStart (dc2X kx vx tg iter th jter fs gs scope pos) 0 (.ref it) (.ref D) (compEnvC scope (cellsFrom (s3.heap.objs.size + 1) scope.names (cloFrom X.env.cells scope.names [])) s3.heap.objs.size X.env)) (compPost (model X.prog X.w) X.A X.xe use Qf (.ref D) s3.heap.objs.size) { s3 with heap := pushCells (s3.heap.push { cls := .type "dict", data := .dict #[] }) scope.names }
  have nfp : ∀ b ∈ fp, (L2.upd H2 D (.dK [])) b = none := fun b hb => (f3 b hb).1.1
  generalize hce : compEnvC scope (cellsFrom (s3.heap.objs.size + 1) scope.names (cloFrom X.env.cells scope.names [])) s3.heap.objs.size X.env = ce at I4 pg pt pk pv pj ph pu ⊢
  have cL : ce.locals = s3.heap.objs.size := by subst hce; rfl
  generalize hH3 : L2.upd H2 D (.dK []) = H3 at I3 I4 pg pt pk pv pj ph pu w0 nfp f3
  generalize hs4 : ({ s3 with heap := pushCells (s3.heap.push { cls := .type "dict", data := .dict #[] }) scope.names } : Shared) = s4 at I4 ⊢
  have st4 : tn 0 s4.heap := T.keep _ _ _ st3 fun b _ o e => by rw [← hs4]; exact pushCells_keeps _ _ _ _ (Heap.get?_push_of_some _ e)
  have stat : ∀ {σ' : L2.St} {H' : Hp} {s' : Shared}, Inv (X.blk s3 H3 scope ce fp) [] σ' H' s' → (∀ b ∈ fp, H' b = none) → ∀ b ∈ fp, FpOk (X.blk s3 H3 scope ce fp) [] H' b := fun {σ' H' s'} I' hn b hb => ⟨hn b hb, (I'.ok.exf b hb).1, I'.ok.exfs b hb, .inl hb, fun x c e => (I'.ok.exf b hb).2 x c e, fun p hp => absurd (show p ∈ ([] : List (Addr × Obj)) ++ [] from hp) (by simp)⟩
  have wl : ∀ (τ : L2.St) (l : List Nat), (L2.wipe τ l).length = τ.length := fun τ l => wipe_length τ l
  have loop : codeAny (model X.prog X.w) X.A (.compLoop (dc2X kx vx tg iter th jter fs gs scope pos) 0 (.ref it) (.ref D) ce) (compPost (model X.prog X.w) X.A X.xe use Qf (.ref D) s3.heap.objs.size) s4 := by
    refine dc2_loop0 (Z.fold2 ce) (fun n s' => ∃ i H', Inv (X.blk s3 H3 scope ce fp) [] (L2.wipe σ (own.map (·.2))) H' s' ∧ tn i s'.heap ∧ (∀ b ∈ fp, H' b = none) ∧ W i n H') ?_ m0 ⟨0, H3, I4, st4, nfp, w0⟩
    rintro n s5 ⟨i, H5, I5, st5, n5, w5⟩
    rcases turn i n H5 w5 with ⟨stop, qq⟩ | ⟨go, N, hN, step⟩
    · refine thnF (T.done (X.blk s3 H3 scope ce fp) rfl rfl rfl hc i [] s5 _ H5 (fun _ _ => False) I5 (stat I5 n5) st5 stop) fun r s6 ⟨hr, I6⟩ => ?_
      subst hr
      have I7 : Inv X pins σ H5 s6 := I3.call' (ch := fp) I6.os I6.base I6.hok I6.bare fun b hb => let ⟨z, _⟩ := f3 b hb; ⟨z.2.2.2.1, z.2.1, z.2.2.2.2.1, z.2.2.2.2.2⟩
      have nC : H5 s3.heap.objs.size = none := cL ▸ (show H5 ce.locals = none from I6.free)
      obtain ⟨m, hn, _⟩ := I6.loc
      exact hRR D s3.heap.objs.size s6 m H5 I7 qq (cL ▸ (show s6.heap.Ns ce.locals m from hn)) (I3.fpOk (Nat.le_refl _) nC)
    · refine thnF (T.item (X.blk s3 H3 scope ce fp) rfl rfl rfl hc i [] s5 _ H5 (fun _ _ => False) I5 (stat I5 n5) st5 go) fun r s6 ⟨u, hr, h6⟩ => ?_
      subst hr
      refine thnF h6 fun _ s7 ⟨x, H7, I7, r7, y7, st7, n7⟩ => ?_
      refine thnF (pg.run _ s7 _ H7 x u _ (I7.pinned (stat I7 n7) (T.obj _ _ st7)) r7 (step x H7 y7)) fun _ s8 ⟨σ8, H8, I8, hw8, q8⟩ => ?_
      refine thnF (show wpAny _ _ (testAll fs ce) _ _ s8 from pt.run _ s8 σ8 H8 _ I8 q8) fun b s9 ⟨H9, I9, q9⟩ => ?_
      have fin : ∀ {σ9 : L2.St} {s' : Shared} {H' : Hp}, Inv (X.blk s3 H3 scope ce fp) ([] ++ pinsAt fp s7.heap) σ9 H' s' → (L2.wipe σ (own.map (·.2))).length = σ9.length → (∀ (j : Nat) v, (L2.wipe σ (own.map (·.2)))[j]? = some (some v) → σ9[j]? = some (some v)) → N H' →
          ∃ m, m < n ∧ ∃ i H', Inv (X.blk s3 H3 scope ce fp) [] (L2.wipe σ (own.map (·.2))) H' s' ∧ tn i s'.heap ∧ (∀ b ∈ fp, H' b = none) ∧ W i m H' := fun {σ9 s' H'} I' hl hk nx => by
        obtain ⟨m', hm, w'⟩ := hN H' nx
        have pin : ∀ b ∈ fp, ∀ o, s7.heap.get? b = some o → s'.heap.get? b = some o ∧ H' b = none := fun b hb o e => let z := I'.pin (b, o) (List.mem_append_right _ (List.mem_append_right _ (mem_pinsAt hb e))); ⟨z.1, z.2.1⟩
        exact ⟨m', hm, i + 1, H', (I'.unpinned (pins := [])).weak hl hk, T.keep _ _ _ st7 fun b hb o e => (pin b hb o e).1, fun b hb => let ⟨o, e, _⟩ := T.obj _ _ st7 b hb; (pin b hb o e).2, w'⟩
      have hl8 : (L2.wipe σ (own.map (·.2))).length = σ8.length := hw8 ▸ wl σ8 _
      have hk8 : ∀ (j : Nat) v, (L2.wipe σ (own.map (·.2)))[j]? = some (some v) → σ8[j]? = some (some v) := fun j v e => (wipe_some (hw8.symm ▸ e)).1
      have hk9 : ∀ (j : Nat) v, (L2.wipe σ (own.map (·.2)))[j]? = some (some v) → (L2.wipe σ8 us)[j]? = some (some v) := fun j v e => by
        obtain ⟨e1, e2⟩ := wipe_some (hw8.symm ▸ e)
        rw [wipe_out fun z => e2 (Z.sub j z), e1]
      cases b with
      | false =>
        simp only [Bool.false_eq_true, if_false] at q9 ⊢; exact fin I9 hl8 hk8 q9
      | true =>
        simp only [if_true] at q9 ⊢; refine thnF (pj.run _ s9 σ8 H9 _ I9 q9) fun xv s10 hx => thnF hx fun itv s11 h11 => ?_
        obtain ⟨jt, gp, un, J2, H11, e1, I11, T1, st11, f11, U, ⟨m1, w1⟩, turn1⟩ := h11
        subst e1
        have stat1 : ∀ {H' : Hp}, (∀ b ∈ gp, H' b = none) → ∀ b ∈ gp, FpOk (X.blk s3 H3 scope ce fp) ([] ++ pinsAt fp s7.heap) H' b := fun hn b hb => ⟨hn b hb, (f11 b hb).2⟩
        have loop1 : codeAny (model X.prog X.w) X.A (.compLoop (dc2X kx vx tg iter th jter fs gs scope pos) 1 (.ref jt) (.ref D) ce) (fun r s' => match r with
            | .ok _ => ∃ m, m < n ∧ ∃ i H', Inv (X.blk s3 H3 scope ce fp) [] (L2.wipe σ (own.map (·.2))) H' s' ∧ tn i s'.heap ∧ (∀ b ∈ fp, H' b = none) ∧ W i m H'
            | .error _ => False) s11 := by
          refine dc2_loop1 (fun k s' => ∃ j H', Inv (X.blk s3 H3 scope ce fp) ([] ++ pinsAt fp s7.heap) (L2.wipe σ8 us) H' s' ∧ un j s'.heap ∧ (∀ b ∈ gp, H' b = none) ∧ U j k H') ?_ m1 ⟨0, H11, I11.weak (wl _ _) (fun j v e => (wipe_some e).1), st11, fun b hb => (f11 b hb).1, w1⟩
          rintro k s12 ⟨j, H12, I12, st12, n12, w12⟩
          rcases turn1 j k H12 w12 with ⟨stop1, nx1⟩ | ⟨go1, M, hM, step1⟩
          · refine thnF (T1.done (X.blk s3 H3 scope ce fp) rfl rfl rfl hc j _ s12 (L2.wipe σ8 us) H12 (fun _ _ => False) I12 (stat1 n12) st12 stop1) fun r s13 ⟨hr, I13⟩ => ?_
            subst hr
            exact fin I13 (hl8.trans (wl σ8 us).symm) hk9 nx1
          · refine thnF (T1.item (X.blk s3 H3 scope ce fp) rfl rfl rfl hc j _ s12 (L2.wipe σ8 us) H12 (fun _ _ => False) I12 (stat1 n12) st12 go1) fun r s13 ⟨u1, hr, h13⟩ => ?_
            subst hr
            refine thnF h13 fun _ s14 ⟨x1, H14, I14, r14, y14, st14, n14⟩ => ?_
            refine thnF (ph.run _ s14 (L2.wipe σ8 us) H14 x1 u1 _ (I14.pinned (stat1 n14) (T1.obj _ _ st14)) r14 (step1 x1 H14 y14)) fun _ s15 ⟨σ15, H15, I15, hw15, q15⟩ => ?_
            refine thnF (show wpAny _ _ (testAll gs ce) _ _ s15 from pu.run _ s15 σ15 H15 _ I15 q15) fun b1 s16 ⟨H16, I16, q16⟩ => ?_
            have fin1 : ∀ {s' : Shared} {H' : Hp}, Inv (X.blk s3 H3 scope ce fp) (([] ++ pinsAt fp s7.heap) ++ pinsAt gp s14.heap) σ15 H' s' → M H' → ∃ m, m < k ∧ ∃ j H', Inv (X.blk s3 H3 scope ce fp) ([] ++ pinsAt fp s7.heap) (L2.wipe σ8 us) H' s' ∧ un j s'.heap ∧ (∀ b ∈ gp, H' b = none) ∧ U j m H' := fun {s' H'} I' nx => by
              obtain ⟨m', hm, w'⟩ := hM H' nx
              have pin : ∀ b ∈ gp, ∀ o, s14.heap.get? b = some o → s'.heap.get? b = some o ∧ H' b = none := fun b hb o e => let z := I'.pin (b, o) (List.mem_append_right _ (List.mem_append_right _ (mem_pinsAt hb e))); ⟨z.1, z.2.1⟩
              exact ⟨m', hm, j + 1, H', I'.unpinned.weak (hw15 ▸ wl σ15 us) (fun j v e => (wipe_some (hw15.symm ▸ e)).1), T1.keep _ _ _ st14 fun b hb o e => (pin b hb o e).1, fun b hb => let ⟨o, e, _⟩ := T1.obj _ _ st14 b hb; (pin b hb o e).2, w'⟩
            cases b1 with
            | false =>
              simp only [Bool.false_eq_true, if_false] at q16 ⊢; exact fin1 I16 q16
            | true =>
              simp only [if_true] at q16 ⊢; refine thnF (pk.run _ s16 σ15 H16 _ I16 q16) fun z s17 ⟨yk, H17, I17, r17, q17⟩ => ?_
              refine thnF (pv.run _ s17 σ15 H17 _ I17 q17) fun z2 s18 ⟨yv, H18, I18, r18, kvs, k, ek, hD18, hz18, nx⟩ => ?_
              subst ek
              exact d_dictSet (X := X.blk s3 H3 scope ce fp) I18 hD18 hz18 r17 r18 fun s19 I19 => fin1 I19 nx
        exact dc2_start1 loop1 (T1.self X.A 0 _ _ _ st11 loop1)
  exact codeAny_compStart_dict loop (T.self X.A 0 _ _ _ st4 loop)
end
end Ab

namespace Ab
open PySem PySem.Spec PyProof.Rows L2
section
variable {X : Cx} {pos : Pos}
def dc2L (K : PySem.W.Frag) (g : ATG) (tt : ATT) (wj : ATI) (h : ATG) (tu : ATT) (tk tv : ATE) (us : List Nat) (G : AHp → Prop) (D : Addr) (q : AK) (a : ASt) : List AV → AHp → Prop
  | [], m => G m ∧ q (.ref D) m
  | x :: xs, m => G m ∧ g x a m fun a2 m2 => tt a2 m2 fun b m3 => if b = true then wj a2 m3 fun ys G2 m4 => dcL K h tu tk tv G2 D (fun _ m5 => Fg K m5 fun m6 => dc2L K g tt wj h tu tk tv us G D q a xs m6) (wipeA a2 us) ys m4
    else Fg K m3 fun m6 => dc2L K g tt wj h tu tk tv us G D q a xs m6
def aDc2 (K : PySem.W.Frag) (w : ATI) (g : ATG) (tt : ATT) (wj : ATI) (h : ATG) (tu : ATT) (tk tv : ATE) (vs us : List Nat) : ATE := fun a m q => w a m fun xs G m1 => ∀ D, m1 D = none → dc2L K g tt wj h tu tk tv us G D q (wipeA a vs) xs (updA m1 D (.dK []))
theorem dcI_of {K : PySem.W.Frag} {h : ATG} {tu : ATT} {tk tv : ATE} {sl us : List Nat} (hsl : ∀ i ∈ sl, i ∈ us) {a2 : ASt} {σ2 : L2.St} {H4 : Hp} {ys : List AV} {G : AHp → Prop} {m4 : AHp} {J : It} {D : Addr} {q : AK} {N : Hp → Prop} (s : SimS K H4 a2 σ2) (g4 : SimH K H4 m4) (S : ItS K H4 ys G J)
    (run : dcL K h tu tk tv G D q (wipeA a2 us) ys m4) (fin : ∀ m H', Le K H4 H' → SimH K H' m → q (.ref D) m → N H') :
    ∃ U : Nat → Nat → Hp → Prop, (∃ m, U 0 m H4) ∧ ∀ j k H, U j k H → (J.stop j H ∧ N H) ∨ (J.go j H ∧ ∃ M : Hp → Prop, (∀ H', M H' → ∃ k', k' < k ∧ U (j + 1) k' H') ∧ ∀ x H', J.yld j H x H' → clG K sl h x (L2.wipe σ2 us) H' fun σ3 H5 => L2.wipe σ3 us = L2.wipe σ2 us ∧ clT K tu σ3 H5 fun b H6 =>
      if b = true then clE K tk σ3 H6 fun y H7 => clE K tv σ3 H7 fun z H8 => ∃ kvs k, y = kV k ∧ H8 D = some (.dK kvs) ∧ kvs.length < sizeLine ∧ M (L2.upd H8 D (.dK (putK kvs k z))) else M H6) := by
  refine ⟨fun i k H' => k = ys.length - i ∧ i ≤ ys.length ∧ ∃ m, Le K H4 H' ∧ SimH K H' m ∧ dcL K h tu tk tv G D q (wipeA a2 us) (ys.drop i) m, ⟨ys.length, by simp, Nat.zero_le _, _, .refl, g4, run⟩, ?_⟩
  rintro i k H2 ⟨rfl, hi, m2, l2, g2, q2⟩
  have s2 : SimS K H2 (wipeA a2 us) (L2.wipe σ2 us) := (s.wiped us).mono l2
  by_cases hlt : i < ys.length
  · rw [List.drop_eq_getElem_cons hlt] at q2
    obtain ⟨gm, q2⟩ := q2
    refine .inr ⟨S.go i H2 m2 l2 g2 gm hlt, fun H' => ∃ m, Le K H4 H' ∧ SimH K H' m ∧ dcL K h tu tk tv G D q (wipeA a2 us) (ys.drop (i + 1)) m, fun H' z => ⟨ys.length - (i + 1), by omega, rfl, hlt, z⟩, fun v H3 y => ?_⟩
    obtain ⟨l3, g3, r3⟩ := S.yld i H2 m2 v H3 ys[i] l2 g2 gm (List.getElem?_eq_getElem hlt) y
    refine ⟨ys[i], wipeA a2 us, m2, _, r3, s2.mono l3, g3, q2, fun t4 m4 σ4 H4 l4 s4 g4 z1 z2 q4 => ⟨wipe_same hsl z1 z2, t4, m4, _, s4, g4, q4, fun b m5 H5 l5 g5 q5 => ?_⟩⟩
    cases b with
    | false =>
      rw [if_neg Bool.false_ne_true]
      have q5 := (if_neg Bool.false_ne_true) ▸ q5
      obtain ⟨m6, z, q5⟩ := q5
      exact ⟨m6, l2.trans (l3.trans (l4.trans l5)), z _ g5, q5⟩
    | true =>
      rw [if_pos rfl]
      have q5 := (if_pos rfl) ▸ q5
      refine ⟨t4, m5, _, s4.mono l5, g5, q5, fun y m6 v6 H6 l6 g6 r6 q6 => ⟨t4, m6, _, s4.mono (l5.trans l6), g6, q6, fun z m7 v7 H7 l7 g7 r7 ⟨m7, z7, q7⟩ => ?_⟩⟩
      have g7 := z7 _ g7
      cases ek : keyOf y with
      | none => simp only [ek] at q7
      | some kk =>
        cases e7 : m7 D with
        | none => simp only [ek, e7] at q7
        | some o =>
          cases o with
          | dK acc =>
            simp only [ek, e7] at q7
            obtain ⟨ws, f1, f2⟩ := g7 D _ e7
            have hk := key_sim r6 ek
            subst hk
            have hl : acc.length = ws.length := Paired.length f2
            have l8 : Le K H7 (L2.upd H7 D (.dK (putK ws kk v7))) := .dict f1
            exact ⟨ws, kk, rfl, f1, by rw [← hl]; exact q7.1, _, l2.trans (l3.trans (l4.trans (l5.trans (l6.trans (l7.trans l8))))), g7.dictPut e7 f1 (putA_sim f2 r7), q7.2⟩
          | _ => simp only [ek, e7] at q7
  · have hi' : ys.length ≤ i := Nat.le_of_not_lt hlt
    rw [List.drop_eq_nil_of_le hi'] at q2
    exact .inl ⟨S.stop i H2 m2 l2 g2 q2.1 hi', fin m2 H2 l2 g2 q2.2⟩
theorem dc2_of {K : PySem.W.Frag} {w wj : ATI} {g h : ATG} {tt tu : ATT} {tk tv : ATE} {sl sj vs us : List Nat} (hsl : ∀ i ∈ sl, i ∈ vs) (hsj : ∀ i ∈ sj, i ∈ us) {σ : L2.St} {H : Hp} {Q : VK} (hh : clE K (aDc2 K w g tt wj h tu tk tv vs us) σ H Q) :
    tDc2 (clI K w) (clG K sl g) (clT K tt) (clI K wj) (clG K sj h) (clT K tu) (clE K tk) (clE K tv) vs us σ H Q := by
  obtain ⟨a, m, q, h1, h2, h3, h4⟩ := hh
  refine ⟨a, m, _, h1, h2, h3, fun xs G m1 J H1 l1 g1 S q1 => fun D hD => ?_⟩
  have q1 := q1 D (g1.free hD)
  have lD : Le K H1 (L2.upd H1 D (.dK [])) := .new hD
  refine ⟨fun i k H' => k = xs.length - i ∧ i ≤ xs.length ∧ ∃ m, Le K (L2.upd H1 D (.dK [])) H' ∧ SimH K H' m ∧ dc2L K g tt wj h tu tk tv us G D q (wipeA a vs) (xs.drop i) m, ⟨xs.length, by simp, Nat.zero_le _, _, .refl, g1.new hD (o := .dK []) ⟨[], upd_same, .nil⟩, q1⟩, ?_⟩
  rintro i k H2 ⟨rfl, hi, m2, l2, g2, q2⟩
  have l12 := lD.trans l2
  have s2 : SimS K H2 (wipeA a vs) (L2.wipe σ vs) := (h1.wiped vs).mono (l1.trans l12)
  by_cases hlt : i < xs.length
  · rw [List.drop_eq_getElem_cons hlt] at q2
    obtain ⟨gm, q2⟩ := q2
    refine .inr ⟨S.go i H2 m2 l12 g2 gm hlt, fun H' => ∃ m, Le K (L2.upd H1 D (.dK [])) H' ∧ SimH K H' m ∧ dc2L K g tt wj h tu tk tv us G D q (wipeA a vs) (xs.drop (i + 1)) m, fun H' z => ⟨xs.length - (i + 1), by omega, rfl, hlt, z⟩, fun v H3 y => ?_⟩
    obtain ⟨l3, g3, r3⟩ := S.yld i H2 m2 v H3 xs[i] l12 g2 gm (List.getElem?_eq_getElem hlt) y
    refine ⟨xs[i], wipeA a vs, m2, _, r3, s2.mono l3, g3, q2, fun t4 m4 σ4 H4 l4 s4 g4 z1 z2 q4 => ⟨wipe_same hsl z1 z2, t4, m4, _, s4, g4, q4, fun b m5 H5 l5 g5 q5 => ?_⟩⟩
    cases b with
    | false =>
      rw [if_neg Bool.false_ne_true]
      have q5 := (if_neg Bool.false_ne_true) ▸ q5
      obtain ⟨m6, z, q5⟩ := q5
      exact ⟨m6, l2.trans (l3.trans (l4.trans l5)), z _ g5, q5⟩
    | true =>
      rw [if_pos rfl]
      have q5 := (if_pos rfl) ▸ q5
      refine ⟨t4, m5, _, s4.mono l5, g5, q5, fun ys G2 m6 J2 H6 l6 g6 S2 q6 => ?_⟩
      exact dcI_of hsj (s4.mono (l5.trans l6)) g6 S2 q6 fun m7 H7 l7 g7 ⟨m8, z8, q8⟩ => ⟨m8, l2.trans (l3.trans (l4.trans (l5.trans (l6.trans l7)))), z8 _ g7, q8⟩
  · have hi' : xs.length ≤ i := Nat.le_of_not_lt hlt
    rw [List.drop_eq_nil_of_le hi'] at q2
    exact .inl ⟨S.stop i H2 m2 l12 g2 q2.1 hi', h4 _ m2 _ H2 (l1.trans l12) g2 (.ref D) q2.2⟩
variable {kx vx tg iter th jter : Expr} {fs gs : List Expr} {scope : Scope} {own : List (Str × Nat)} {w wj : ATI} {sl sj us : List Nat} {g h : ATG} {tt tu : ATT} {tk tv : ATE}
theorem as_setDc2 {i : Nat} {y : Str} {py spos : Pos} (hc : X.calm = true) (hN : X.N.Nodup) (hy : X.N[i]? = some y) (hyl : X.env.scope.names.lookup y = some .local)
    (hsw : swapsWith (dc2X kx vx tg iter th jter fs gs scope pos) (some (.Name y py)) spos.line X.env = pure true) (hi : AI X tg iter w) (ok : BlkOk X.N X.env.scope scope own) (sub : ∀ i ∈ us, i ∈ own.map (·.2))
    (hg : ∀ (s : Shared) (H : Hp) (C : Addr) (cl : List (Str × Addr)) (fp : List Addr), AG (X.blk s H scope (compEnvC scope cl C X.env) fp) tg sl g) (ht : ∀ (s : Shared) (H : Hp) (C : Addr) (cl : List (Str × Addr)) (fp : List Addr), ATs (X.blk s H scope (compEnvC scope cl C X.env) fp) fs tt)
    (hj : ∀ (s : Shared) (H : Hp) (C : Addr) (cl : List (Str × Addr)) (fp : List Addr), AI (X.blk s H scope (compEnvC scope cl C X.env) fp) th jter wj)
    (hh : ∀ (s : Shared) (H : Hp) (C : Addr) (cl : List (Str × Addr)) (fp : List Addr), AG (X.blk s H scope (compEnvC scope cl C X.env) fp) th sj h) (hu : ∀ (s : Shared) (H : Hp) (C : Addr) (cl : List (Str × Addr)) (fp : List Addr), ATs (X.blk s H scope (compEnvC scope cl C X.env) fp) gs tu)
    (hk : ∀ (s : Shared) (H : Hp) (C : Addr) (cl : List (Str × Addr)) (fp : List Addr), AE (X.blk s H scope (compEnvC scope cl C X.env) fp) kx tk)
    (hv : ∀ (s : Shared) (H : Hp) (C : Addr) (cl : List (Str × Addr)) (fp : List Addr), AE (X.blk s H scope (compEnvC scope cl C X.env) fp) vx tv) (hsl : ∀ i ∈ sl, i ∈ own.map (·.2) := by decide) (hsj : ∀ i ∈ sj, i ∈ us := by decide) (hs : ∀ x, foldedSetIterable iter X.env x = pure x := by intro _; rfl) (hs2 : ∀ env x, foldedSetIterable jter env x = pure x := by intro _ _; rfl) :
    AS X (.Assign [.Name y py] (dc2X kx vx tg iter th jter fs gs scope pos) spos) (aAsg (aDc2 X.K w g tt wj h tu tk tv (own.map (·.2)) us) (aName i)) := by
  refine ⟨fun pins s σ H D inv ⟨a, m, d, h1, h2, h3, h4⟩ => ?_⟩
  have z : clE X.K (aDc2 X.K w g tt wj h tu tk tv (own.map (·.2)) us) σ H (fun x H1 => gName i x σ H1 D.nx) := ⟨a, m, _, h1, h2, h3, fun x m1 v H1 l g1 r q => h4.nx _ m1 _ H1 l ((h1.mono l).put r i) g1 q⟩
  rw [exec_Assign_Name_used _ _ _ _ hsw]
  refine wpAny_bind (wpAny_standAt (wpAny_bind ?_))
  show wpAny _ X.A (comprehension (dc2X kx vx tg iter th jter fs gs scope pos) scope X.env (firstIterPos [⟨tg, iter, fs, 0⟩, ⟨th, jter, gs, 0⟩] pos) newDict false (eval iter X.env) (some (assign (.Name y py) X.env)) >>= fun _ => pure ()) _ _ s
  have main := dc2_main (pos := pos) (use := some (assign (.Name y py) X.env)) (Qf := fun _ s2 => SP X pins D .next s2) (p2 := firstIterPos [⟨tg, iter, fs, 0⟩, ⟨th, jter, gs, 0⟩] pos) ⟨hc, hN, hi, ok, sub, hg, ht, hk, hv, hs, hj, hh, hu, hs2⟩ inv (dc2_of hsl hsj z) ?_
  · exact wpAny_bind (thn main fun _ s2 q => wpAny_pure (wpAny_pure q))
  · intro L C s2 m H2 inv2 q ns fp
    show wpAny _ _ (assign (.Name y py) X.env (.ref L)) _ _ _
    refine wpAny_assign_Name (store_ok2 (v := V.ref L) inv2 hN hy (.inl hyl) rfl ?_ (.inr hyl))
    rintro s3 inv3 ⟨b, same, hb⟩
    obtain ⟨f0, f1, f2, f3, f4, f5⟩ := fp
    have apart : C ≠ b := hb.elim (fun z => by rw [z]; exact f1) fun z e => f4 y b z e.symm
    exact ⟨m, ns.sameBut same apart, fun h4 same4 => ⟨_, H2, inv3.turned (t' := s3.toks) (fun c o hc2 e => (same4.2 c hc2).trans e) f0 f1 f3 f4 f5, q⟩⟩

def aDNew : ATE := fun _ m q => ∀ p, m p = none → q (.ref p) (updA m p (.dK []))
theorem ae_dnew : AE X (.Dict [] [] pos) aDNew := ae_of pe_dnewK fun a m q σ H Q h1 h2 h3 h4 p hp => h4 _ _ _ _ (.new hp) (h2.new hp (o := .dK []) ⟨[], upd_same, .nil⟩) (.ref p) (h3 p (h2.free hp))
variable {o e f : Expr} {to te tf : ATE} {apos cpos : Pos}
def dAt (m : AHp) (a : Addr) : Option (List (Key × AV)) := match m a with
  | some (.dK kvs) => some kvs
  | some (.lkd kvs) => some kvs
  | _ => none
theorem dAt_rd {K : PySem.W.Frag} {H : Hp} {m : AHp} {a : Addr} {kvs : List (Key × AV)} (g : SimH K H m) (e : dAt m a = some kvs) : ∃ ws, Rd H a (.dK ws) ∧ SimK K H kvs ws := by
  unfold dAt at e
  split at e
  · rename_i k2 e2
    cases e
    obtain ⟨ws, f1, f2⟩ := g a _ e2
    exact ⟨ws, .inl f1, f2⟩
  · rename_i k2 e2
    cases e
    obtain ⟨od, ws, f1, f2⟩ := g a _ e2
    exact ⟨ws, .inr ⟨od, f1⟩, f2⟩
  · cases e
def isD (m : AHp) (x : AV) (k : Addr → Prop) : Prop := match x with
  | .ref a => (dAt m a).isSome = true ∧ k a
  | _ => False
theorem isD_of {m : AHp} {x : AV} {k : Addr → Prop} (h : isD m x k) : ∃ a kvs, x = .ref a ∧ dAt m a = some kvs ∧ k a := by
  cases x <;> first | exact h.elim | skip
  rename_i a
  obtain ⟨h1, h2⟩ := h
  obtain ⟨kvs, e⟩ := Option.isSome_iff_exists.mp h1
  exact ⟨a, kvs, rfl, e, h2⟩
theorem isD_V {K : PySem.W.Frag} {H : Hp} {m : AHp} {a : Addr} {kvs : List (Key × AV)} (g : SimH K H m) (e : dAt m a = some kvs) : IsD H a := let ⟨ws, r, _⟩ := dAt_rd g e; .inl ⟨ws, r⟩
def aSetd (to te tf : ATE) : ATE := fun t m q => to t m fun x m1 => isD m1 x fun a => te t m1 fun y m2 => tf t m2 fun z m3 => match keyOf y, m3 a with
  | some k, some (.dK kvs) => kvs.length < sizeLine ∧ (match getK kvs k with
    | some v => q v m3
    | none => q z (updA m3 a (.dK (putA kvs k z))))
  | _, _ => False
theorem ae_setd (ho : AE X o to) (he : AE X e te) (hf : AE X f tf) (m : M2 X o "setdefault" apos e f cpos := by first | exact ⟨rfl, rfl, rfl, rfl⟩ | exact ⟨by rfl, by rfl, by rfl, by rfl⟩) : AE X (.Call (.Attribute o "setdefault" apos) [e, f] [] cpos) (aSetd to te tf) :=
  peI (pe_dsetd ho he hf m) fun σ H Q ⟨a, m, q, h1, h2, h3, h4⟩ => by
    refine ⟨a, m, _, h1, h2, h3, fun x m1 v H1 l1 g1 r1 q1 => ?_⟩
    obtain ⟨d, kvs, rfl, ed, q1⟩ := isD_of q1
    cases r1
    refine ⟨d, rfl, isD_V g1 ed, a, m1, _, h1.mono l1, g1, q1, fun y m2 u H2 l2 g2 r2 q2 => ⟨a, m2, _, h1.mono (l1.trans l2), g2, q2, fun z m3 u3 H3 l3 g3 r3 q3 => ?_⟩⟩
    cases ek : keyOf y with
    | none => simp only [ek] at q3
    | some k =>
      cases em : m3 d with
      | none => simp only [ek, em] at q3
      | some ob =>
        cases ob with
        | dK kvs =>
          simp only [ek, em] at q3
          obtain ⟨ws, f1, f2⟩ := g3 d _ em
          have hl : kvs.length = ws.length := Paired.length f2
          have hk := key_sim r2 ek
          subst hk
          have hg := getK_sim (k := k) f2
          refine ⟨ws, k, f1, rfl, by rw [← hl]; exact q3.1, fun v hv => ?_, fun hv => ?_⟩
          · cases eg : getK kvs k with
            | none => simp only [eg] at hg; rw [hg] at hv; cases hv
            | some x =>
              simp only [eg] at hg q3
              obtain ⟨v', e', s'⟩ := hg
              rw [e'] at hv
              cases hv
              exact h4 _ _ _ _ (l1.trans (l2.trans l3)) g3 s' q3.2
          · cases eg : getK kvs k with
            | some x =>
              simp only [eg] at hg
              obtain ⟨v', e', s'⟩ := hg
              rw [e'] at hv
              cases hv
            | none =>
              simp only [eg] at q3
              exact h4 _ _ _ _ (l1.trans (l2.trans (l3.trans (.dict f1)))) (g3.dictPut em f1 (putA_sim f2 r3)) (r3.mono (.dict f1)) q3.2
        | _ => simp only [ek, em] at q3
def aGet1 (to te : ATE) : ATE := fun t m q => to t m fun x m1 => isD m1 x fun a => te t m1 fun y m2 => match keyOf y, dAt m2 a with
  | some k, some kvs => q ((getK kvs k).getD .non) m2
  | _, _ => False
def aGet2 (to te tf : ATE) : ATE := fun t m q => to t m fun x m1 => isD m1 x fun a => te t m1 fun y m2 => tf t m2 fun z m3 => match keyOf y, dAt m3 a with
  | some k, some kvs => q ((getK kvs k).getD z) m3
  | _, _ => False
theorem dget_sim {K : PySem.W.Frag} {H : Hp} {m : AHp} {d : Addr} {kvs : List (Key × AV)} {k : Key} {z : AV} {u : V} (g : SimH K H m) (e : dAt m d = some kvs) (r : SimV K H z u) : ∃ o, DGet H d (kV k) o ∧ SimV K H ((getK kvs k).getD z) (o.getD u) := by
  obtain ⟨ws, f1, f2⟩ := dAt_rd g e
  have hg := getK_sim (k := k) f2
  refine ⟨valV ws k, .inl ⟨ws, k, f1, rfl, rfl⟩, ?_⟩
  cases eg : getK kvs k with
  | none => simp only [eg] at hg; rw [hg]; exact r
  | some x => simp only [eg] at hg; obtain ⟨v', e', s'⟩ := hg; rw [e']; exact s'
theorem ae_get1 (hu : X.A.units + 164 < cLine) (ho : AE X o to) (he : AE X e te) (m : M1 X o "get" apos e cpos := by first | exact ⟨rfl, rfl, rfl, rfl⟩ | exact ⟨by rfl, by rfl, by rfl, by rfl⟩) : AE X (.Call (.Attribute o "get" apos) [e] [] cpos) (aGet1 to te) :=
  peI (pe_dget1 (by omega) ho he m) fun σ H Q ⟨a, m, q, h1, h2, h3, h4⟩ => by
    refine ⟨a, m, _, h1, h2, h3, fun x m1 v H1 l1 g1 r1 q1 => ?_⟩
    obtain ⟨d, kvs, rfl, ed, q1⟩ := isD_of q1
    cases r1
    refine ⟨d, rfl, isD_V g1 ed, a, m1, _, h1.mono l1, g1, q1, fun y m2 u H2 l2 g2 r2 q2 => ?_⟩
    cases ek : keyOf y with
    | none => simp only [ek] at q2
    | some k =>
      cases em : dAt m2 d with
      | none => simp only [ek, em] at q2
      | some kvs =>
        simp only [ek, em] at q2
        have hk := key_sim r2 ek
        subst hk
        obtain ⟨o, d1, s⟩ := dget_sim (k := k) g2 em .non
        exact ⟨o, d1, h4 _ _ _ _ (l1.trans l2) g2 s q2⟩
theorem ae_get2 (hu : X.A.units + 164 < cLine) (ho : AE X o to) (he : AE X e te) (hf : AE X f tf) (m : M2 X o "get" apos e f cpos := by first | exact ⟨rfl, rfl, rfl, rfl⟩ | exact ⟨by rfl, by rfl, by rfl, by rfl⟩) : AE X (.Call (.Attribute o "get" apos) [e, f] [] cpos) (aGet2 to te tf) :=
  peI (pe_dget2 (by omega) ho he hf m) fun σ H Q ⟨a, m, q, h1, h2, h3, h4⟩ => by
    refine ⟨a, m, _, h1, h2, h3, fun x m1 v H1 l1 g1 r1 q1 => ?_⟩
    obtain ⟨d, kvs, rfl, ed, q1⟩ := isD_of q1
    cases r1
    refine ⟨d, rfl, isD_V g1 ed, a, m1, _, h1.mono l1, g1, q1, fun y m2 u H2 l2 g2 r2 q2 => ⟨a, m2, _, h1.mono (l1.trans l2), g2, q2, fun z m3 u3 H3 l3 g3 r3 q3 => ?_⟩⟩
    cases ek : keyOf y with
    | none => simp only [ek] at q3
    | some k =>
      cases em : dAt m3 d with
      | none => simp only [ek, em] at q3
      | some kvs =>
        simp only [ek, em] at q3
        have hk := key_sim r2 ek
        subst hk
        obtain ⟨o, d1, s⟩ := dget_sim (k := k) g3 em r3
        exact ⟨o, d1, h4 _ _ _ _ (l1.trans (l2.trans l3)) g3 s q3⟩
end
end Ab

namespace Ab
open PySem PySem.Spec PyProof.Rows L2
theorem rev_places (n : Nat) : Builtin.Slice.sliceAdjust none none (-1) (n : Int) = ((n : Int) - 1, -1) ∧ Builtin.Slice.slicePlaces ((n : Int) - 1) (-1) (-1) = n := by
  refine ⟨rfl, ?_⟩
  unfold Builtin.Slice.slicePlaces
  rw [if_neg (by decide)]
  by_cases h : (n : Int) - 1 > -1
  · rw [if_pos h, show (- -1 : Int) = 1 by decide, Int.ediv_one]
    omega
  · rw [if_neg h]
    omega
theorem fm_congr {α β : Type} {f g : α → Option β} : ∀ {l : List α}, (∀ k ∈ l, f k = g k) → l.filterMap f = l.filterMap g
  | [], _ => rfl
  | x :: l, h => by
    rw [List.filterMap_cons, List.filterMap_cons, h x List.mem_cons_self, fm_congr fun k hk => h k (List.mem_cons_of_mem _ hk)]
theorem rev_pick (xs : Array Value) : ((List.range xs.size).filterMap fun (k : Nat) => xs[(((xs.size : Int) - 1) + (k : Int) * -1).toNat]?) = xs.toList.reverse := by
  have e : ((List.range xs.size).filterMap fun (k : Nat) => xs[(((xs.size : Int) - 1) + (k : Int) * -1).toNat]?) = ((List.range xs.size).map fun k => xs.size - 1 - k).filterMap (xs[·]?) := by
    rw [List.filterMap_map]
    refine fm_congr fun k hk => ?_
    have := List.mem_range.mp hk
    show xs[(((xs.size : Int) - 1) + (k : Int) * -1).toNat]? = xs[xs.size - 1 - k]?
    rw [show (((xs.size : Int) - 1) + (k : Int) * -1).toNat = xs.size - 1 - k by omega]
  rw [e, PySem.W.krv_range, List.filterMap_reverse, PySem.W.krv_all]
section
variable {prog : Program} {w : World} {A : Around} {E : Value → Shared → Prop} {s : Shared}
theorem getItem_tup_rev {t sl : Addr} {items : Array Value} {vl vu vs : Value} {Q : Value → Shared → Prop} (ht : IsTup s.heap t items) (hs : s.heap.IsSliceOf sl vl vu vs) (pl : IsPart vl none) (pu : IsPart vu none) (ps : IsPart vs (some (-1)))
    (h : Q (.ref s.heap.objs.size) { s with heap := s.heap.push { cls := .type "tuple", data := .seq items.toList.reverse.toArray } }) (hsz : items.size ≤ sizeLine) : wpAny (model prog w) A (getItem (.ref t) (.ref sl)) Q E s := by
  obtain ⟨os, hos, hcs, hds⟩ := id hs
  have hT : s.TypeIs (.ref sl) "slice" := ⟨os, hos, hcs⟩
  have fit : sizeOk (.seq items.toList.reverse.toArray) := by
    show items.toList.reverse.toArray.size ≤ sizeLine
    rw [List.size_toArray, List.length_reverse, Array.length_toList]; exact hsz
  unfold getItem
  try with_reducible refine wpAny_holding ?_
  first | refine wpAny_bind (wpAny_pure ?_) | skip
  refine wpAny_bind (wpAny_sequenceKey ht.typeIs (by decide) (wpAny_bind (wpAny_callSpecial?_slot (name := Str.ofString "__getitem__") ht.typeIs PyProof.Rows.slot_tuple_getitem (wpAny_call_entry PyProof.Rows.slot_tuple_getitem ht.typeIs entry_tuple_getitem ?_ (args_tuple_getitem _ _)))))
  show wpAny _ _ (Builtin.Tuple.tupleItemsOf (.ref t) >>= _) _ _ s
  refine wpAny_bind (tupleItemsOf_ ht (wpAny_bind (wpAny_typeOf hT ?_)))
  rw [if_pos (by decide)]
  refine wpAny_bind ?_
  unfold Builtin.Slice.sliceApplied Builtin.Slice.sliceFields
  refine wpAny_bind (wpAny_bind (wpAny_field hos hds (x := vl) rfl (wpAny_bind (wpAny_field hos hds (x := vu) rfl (wpAny_bind (wpAny_field hos hds (x := vs) rfl (wpAny_pure (wpAny_bind (HT.slicePart_ ps ?_)))))))))
  show wpAny _ _ (if ((-1 : Int) == 0) = true then _ else _) _ _ s
  rw [if_neg (by decide)]
  refine wpAny_bind (HT.slicePart_ pl (wpAny_bind (HT.slicePart_ pu (wpAny_bind (wpAny_pure ?_)))))
  have rp := rev_places items.size
  show wpAny _ _ (match Builtin.Slice.sliceAdjust none none (-1) (items.size : Int) with | (lo, hi) => pure (lo, (-1 : Int), Builtin.Slice.slicePlaces lo hi (-1))) _ _ s
  rw [rp.1]
  show wpAny _ _ (pure ((items.size : Int) - 1, (-1 : Int), Builtin.Slice.slicePlaces ((items.size : Int) - 1) (-1) (-1))) _ _ s
  rw [rp.2]
  refine wpAny_pure ?_
  have no : ¬ (((items.size : Int) - 1 == 0 && (-1 : Int) == 1 && items.size == items.size) = true) := by simp
  show wpAny _ _ (if ((items.size : Int) - 1 == 0 && (-1 : Int) == 1 && items.size == items.size) = true then _ else _) _ _ s
  rw [if_neg no, rev_pick]
  first
    | exact wpAny_bind (m := Builtin.Tuple.tupleExact _) (wpAny_newObj_type (wpAny_pure ⟨_, rfl, wpAny_pure h⟩) fit)
    | exact wpAny_bind (m := Builtin.Tuple.tupleExact _) (wpAny_newObj_type (wpAny_bind (wpAny_pure (wpAny_pure ⟨_, rfl, wpAny_pure h⟩))) fit)
    | exact wpAny_bind (wpAny_bind (m := Builtin.Tuple.tupleExact _) (wpAny_newObj_type (wpAny_pure (wpAny_pure ⟨_, rfl, wpAny_pure h⟩)) fit))
    | exact wpAny_bind (wpAny_bind (m := Builtin.Tuple.tupleExact _) (wpAny_newObj_type (wpAny_pure ⟨_, rfl, wpAny_pure h⟩) fit))
end
section
variable {X : Cx} {e : Expr} {te : ATE} {k : Nat} {p1 p2 p3 pos : Pos}
def tRevT (K : PySem.W.Frag) (te : TE) : TE := fun σ H Q => te σ H fun x H1 => ∃ a xs, x = .ref a ∧ ((SqL K H1 a xs ∧ ∀ p, H1 p = none → Q (.ref p) (L2.upd H1 p (.lst xs.reverse))) ∨ (SqT K H1 a xs ∧ ∀ (p : Addr) (o : Obj), o.dict = none → H1 p = none → Q (.ref p) (L2.upd H1 p (.frz o (.tup xs.reverse)))))
theorem pe_revT {te : TE} (he : PE X e te) : PE X (.Subscript e (.Slice none none (some (.UnaryOp .USub (.Constant (.int 1) k p1) p2)) p3) pos) (tRevT X.K te) := by
  refine ⟨fun pins s σ H Q I h => Subscript_ (thn (he.run pins s σ H _ I h) fun v s1 ⟨x, H1, I1, r1, a, xs, ex, q1⟩ => ?_)⟩
  subst ex
  cases r1
  have hst : PO X (some (.UnaryOp .USub (.Constant (.int 1) k p1) p2)) (tPart (tUn (rU fun i => .int (-i)) (tC (.int 1)))) := po_some (pe_un un_neg pe_int)
  refine wpAny_Slice (thn (po_none.run pins s1 σ H1 (fun o H2 => o = none ∧ H2 = H1) I1 ⟨rfl, rfl⟩) fun vl s2 ⟨l, H2, I2, pl, el, e2⟩ => ?_)
  subst el e2
  refine thn (po_none.run pins s2 σ H2 (fun o H3 => o = none ∧ H3 = H2) I2 ⟨rfl, rfl⟩) fun vu s3 ⟨u, H3, I3, pu, eu, e3⟩ => ?_
  subst eu e3
  refine thn (hst.run pins s3 σ H3 (fun o H4 => o = some (-1) ∧ H4 = H3) I3 ⟨1, rfl, -1, rfl, rfl, rfl⟩) fun vs s4 ⟨o, H4, I4, ps, eo, e4⟩ => ?_
  subst eo e4
  have I5 : Inv X pins σ H4 { s4 with heap := s4.heap.push { cls := .type "slice", data := .fields #[vl, vu, vs] } } := I4.kept (t' := s4.toks) fun b ob q => Heap.get?_push_of_some _ q
  show wpAny (model X.prog X.w) X.A (subscriptTail e (.Slice none none (some (.UnaryOp .USub (.Constant (.int 1) k p1) p2)) p3) (.ref a) (.ref s4.heap.objs.size)) (EP X pins σ Q) X.xe { s4 with heap := s4.heap.push { cls := .type "slice", data := .fields #[vl, vu, vs] } }
  rcases q1 with ⟨hx, q⟩ | ⟨hx, q⟩
  · obtain ⟨its, r, ht, hz⟩ := I5.list hx
    have hlen := r.length
    refine tail_any (ops := [.ref a, .ref s4.heap.objs.size]) ht.isList.typeIs (PySem.slot_list_getitem.lookup) (wpAny_getItem_list_slice ht.isList (Heap.IsSliceOf.new _ vl vu vs) pl pu ps (by decide) ?_ (by rw [List.size_toArray]; omega)) (by with_unfolding_all rfl)
    rw [PySem.W.krv_pick]
    exact ⟨.ref _, _, I5.laid (t' := s4.toks) (o := .lst xs.reverse) (fun b ob q => Heap.get?_push_of_some _ q) (Nat.le_refl _) ⟨by rw [List.length_reverse]; exact hz, _, 0, r.reverse, Heap.get?_push_size _ rfl⟩, rfl, q _ (I5.hok.fresh (Nat.le_refl _))⟩
  · obtain ⟨its, r, ht, hz⟩ := I5.tuple hx
    have hlen := r.length
    refine tail_any (ops := [.ref a, .ref s4.heap.objs.size]) ht.typeIs (PyProof.Rows.slot_tuple_getitem.lookup) (getItem_tup_rev ht (Heap.IsSliceOf.new _ vl vu vs) pl pu ps ?_ (by rw [List.size_toArray]; omega)) (by with_unfolding_all rfl)
    exact ⟨.ref _, _, I5.laid (t' := s4.toks) (fun b ob q => Heap.get?_push_of_some _ q) (Nat.le_refl _) (ok_new (its := its.reverse) (by rw [List.length_reverse]; exact hz) r.reverse), rfl, q _ _ rfl (I5.hok.fresh (Nat.le_refl _))⟩
def aRev (te : ATE) : ATE := fun t m q => te t m fun x m1 => match x with
  | .tup xs => q (.tup xs.reverse) m1
  | .ref b => match m1 b with
    | some (.lst xs) => ∀ p, m1 p = none → q (.ref p) (updA m1 p (.lst xs.reverse))
    | _ => False
  | _ => False
theorem ae_rev (he : AE X e te) : AE X (.Subscript e (.Slice none none (some (.UnaryOp .USub (.Constant (.int 1) k p1) p2)) p3) pos) (aRev te) := peI (pe_revT he) fun σ H Q ⟨a, m, q, h1, h2, h3, h4⟩ => by
  refine ⟨a, m, _, h1, h2, h3, fun x m1 v H1 l1 g1 r1 q1 => ?_⟩
  cases x with
  | tup xs =>
    cases r1 with
    | tup f1 f2 => exact ⟨_, _, rfl, .inr ⟨f1.sq, fun p o ho hp => (h4.mono l1).newT g1 f2.reverse ho hp q1⟩⟩
  | ref b =>
    cases r1
    cases eb : m1 b with
    | none => simp only [eb] at q1
    | some ob =>
      cases ob with
      | lst xs =>
        simp only [eb] at q1
        obtain ⟨ws, f1, f2⟩ := g1 b _ eb
        exact ⟨b, ws, rfl, .inl ⟨SqL.of f1, fun p hp => (h4.mono l1).newL g1 f2.reverse hp q1⟩⟩
      | _ => simp only [eb] at q1
  | _ => exact q1.elim
end
end Ab

namespace Ab
open PySem PySem.Spec PyProof.Rows L2
theorem sz {n : Nat} (h : n ≤ 16777216) : n ≤ sizeLine := h
theorem letters_ok : ∀ x ∈ (Str.ofString "abcdefghijklmnopqrstuvwxyz").cps.toList, 97 ≤ x ∧ x ≤ 122 := by decide +kernel
theorem map_strs (cs : List Nat) : (cs.map fun i => AV.str ⟨#[i]⟩) = (cs.map fun i => (⟨#[i]⟩ : Str)).map AV.str := by
  rw [List.map_map]
  rfl
theorem sum_ones : ∀ cs : List Nat, (cs.map fun _ => 1).sum = cs.length
  | [] => rfl
  | c :: cs => by rw [List.map_cons, List.sum_cons, sum_ones cs, List.length_cons]; omega
def kinds : List Str := ["same", "both", "call", "either", "fresh", "unlike", "number", "word", "absent", "x", "put", "go"]
theorem kinds_ok : ∀ w ∈ kinds, Word w := fun w h => (isWord_iff w).mp ((by decide +kernel : ∀ w ∈ kinds, isWord w = true) w h)
theorem upto_mem {n : Nat} {x : AV} (h : x ∈ upto n) : ∃ i : Nat, x = .int i ∧ i < n := by
  unfold upto at h
  obtain ⟨i, hi, rfl⟩ := List.mem_map.mp h
  exact ⟨i, rfl, List.mem_range.mp hi⟩
theorem updA_swap {m : AHp} {p a : Addr} {o u : AO} (h : a ≠ p) : updA (updA m p o) a u = updA (updA m a u) p o := by
  funext b
  by_cases h1 : b = a
  · subst h1; rw [updA_same, updA_ne h, updA_same]
  · by_cases h2 : b = p
    · subst h2; rw [updA_ne h1, updA_same, updA_same]
    · rw [updA_ne h1, updA_ne h2, updA_ne h2, updA_ne h1]
theorem updA_self {m : AHp} {a : Addr} {o : AO} (h : m a = some o) : updA m a o = m := by
  funext b
  by_cases hb : b = a
  · subst hb; rw [updA_same, h]
  · rw [updA_ne hb]
inductive Trm where
  | num (i : Int) | wd (w : Str) | nil | unk (n : Int) | pair (a b : Trm)
def Trm.av : Trm → AV
  | .num i => .int i
  | .wd w => .str w
  | .nil => .tup []
  | .unk n => .tup [.str "?", .int n]
  | .pair a b => .tup [a.av, b.av]
def Trm.ok (A U : Int → Prop) : Trm → Prop
  | .num i => A i
  | .wd w => Word w
  | .nil => True
  | .unk n => U n
  | .pair a b => a.ok A U ∧ b.ok A U
def Trm.deep : Trm → Nat
  | .pair a b => max a.deep b.deep + 1
  | _ => 1
def Trm.pairs : Trm → Nat
  | .pair a b => a.pairs + b.pairs + 1
  | _ => 0
def Trm.tip : Trm → Prop
  | .pair _ _ => False
  | _ => True
theorem Trm.tip_deep {t : Trm} (h : t.tip) : t.deep = 1 ∧ t.pairs = 0 := by
  cases t <;> first | exact ⟨rfl, rfl⟩ | exact h.elim
theorem Trm.ok_imp {A A' U U' : Int → Prop} (ha : ∀ i, A i → A' i) (hu : ∀ i, U i → U' i) : ∀ {t : Trm}, t.ok A U → t.ok A' U'
  | .num i, h => ha i h
  | .wd _, h => h
  | .nil, h => h
  | .unk n, h => hu n h
  | .pair _ _, h => ⟨ok_imp ha hu h.1, ok_imp ha hu h.2⟩
theorem Trm.deep_pos (t : Trm) : 1 ≤ t.deep := by
  cases t <;> simp only [Trm.deep] <;> omega
def Far (i : Int) : Prop := -1000000000000 ≤ i ∧ i ≤ 1000000000000

def Trm.tips : Trm → List Trm
  | .pair a b => a.tips ++ b.tips
  | t => [t]
def Trm.size : Trm → Nat
  | .pair a b => a.size + b.size + 1
  | _ => 1
theorem Trm.size_pairs : ∀ t : Trm, t.size = 2 * t.pairs + 1
  | .num _ => rfl
  | .wd _ => rfl
  | .nil => rfl
  | .unk _ => rfl
  | .pair a b => by simp only [Trm.size, Trm.pairs, Trm.size_pairs a, Trm.size_pairs b]; omega
theorem Trm.tips_len : ∀ t : Trm, t.tips.length = t.pairs + 1
  | .num _ => rfl
  | .wd _ => rfl
  | .nil => rfl
  | .unk _ => rfl
  | .pair a b => by simp only [Trm.tips, Trm.pairs, List.length_append, Trm.tips_len a, Trm.tips_len b]; omega
theorem Trm.tips_ok {A U : Int → Prop} : ∀ {t : Trm}, t.ok A U → ∀ x ∈ t.tips, x.ok A U ∧ x.tip
  | .num _, h, x, hx => by simp only [Trm.tips, List.mem_singleton] at hx; subst hx; exact ⟨h, trivial⟩
  | .wd _, h, x, hx => by simp only [Trm.tips, List.mem_singleton] at hx; subst hx; exact ⟨h, trivial⟩
  | .nil, h, x, hx => by simp only [Trm.tips, List.mem_singleton] at hx; subst hx; exact ⟨h, trivial⟩
  | .unk _, h, x, hx => by simp only [Trm.tips, List.mem_singleton] at hx; subst hx; exact ⟨h, trivial⟩
  | .pair a b, h, x, hx => by
    simp only [Trm.tips, List.mem_append] at hx
    rcases hx with hx | hx
    · exact Trm.tips_ok h.1 x hx
    · exact Trm.tips_ok h.2 x hx
def Trm.isTup : Trm → Bool
  | .num _ => false
  | .wd _ => false
  | _ => true
def Trm.isNil : Trm → Bool
  | .nil => true
  | _ => false
section
variable {A U : Int → Prop} {m : AHp} {q : AK}
theorem mark_ok : PyData.strOk (Str.ofString "?") = true := by decide +kernel
theorem pureVs_two (x y : AV) : pureVs [x, y] = (pureV x && pureV y) := by simp only [pureVs, Bool.and_true]
theorem Trm.pure : ∀ t : Trm, pureV t.av = true
  | .num _ => by simp only [Trm.av, pureV]
  | .wd _ => by simp only [Trm.av, pureV]
  | .nil => by simp only [Trm.av, pureV, pureVs]
  | .unk _ => by simp only [Trm.av, pureV, pureVs, Bool.and_true]
  | .pair a b => by simp only [Trm.av, pureV, pureVs, Bool.and_true, Trm.pure a, Trm.pure b]
theorem Trm.lay : ∀ {t : Trm}, t.ok A U → (toD t.av).canLay0 = true
  | .num _, _ => by simp only [Trm.av, toD, PyData.canLay0]
  | .wd _, h => by
    simp only [Trm.av, toD, PyData.canLay0]
    exact Word.ok h
  | .nil, _ => by simp only [Trm.av, toD, toDs, PyData.canLay0, PyData.canLayAll0]
  | .unk _, _ => by
    simp only [Trm.av, toD, toDs, PyData.canLay0, PyData.canLayAll0, Bool.and_true]
    exact mark_ok
  | .pair a b, h => by simp only [Trm.av, toD, toDs, PyData.canLay0, PyData.canLayAll0, Bool.and_true, Trm.lay h.1, Trm.lay h.2]
theorem Trm.can {t : Trm} (h : t.ok A U) : canA t.av = true := by
  unfold canA
  rw [t.pure, Trm.lay h]
  rfl
theorem isi_tm (t : Trm) : bIsi [t.av, .ty "tuple"] m q = q (.bl t.isTup) m := by
  have e : (tyNames.contains "tuple" = true ∧ "tuple" ≠ "NoneType") = True := eq_true (by decide)
  cases t <;> (simp only [Trm.av, bIsi, tyA, Trm.isTup, e, true_and]; rfl)
theorem isi_t {xs : List AV} : bIsi [.tup xs, .ty "tuple"] m q = q (.bl true) m := by
  have e : (tyNames.contains "tuple" = true ∧ "tuple" ≠ "NoneType") = True := eq_true (by decide)
  simp only [bIsi, tyA, e, true_and]
  rfl
theorem isi_i {i : Int} : bIsi [.int i, .ty "tuple"] m q = q (.bl false) m := isi_tm (.num i)
theorem isi_s {i : Str} : bIsi [.str i, .ty "tuple"] m q = q (.bl false) m := isi_tm (.wd i)
theorem eqA_ts {xs : List AV} {z : Str} : eqA (.tup xs) (.str z) = false := by simp only [eqA, toD, PyData.eqv]
theorem eqA_is {i : Int} {z : Str} : eqA (.int i) (.str z) = false := by simp only [eqA, toD, PyData.eqv]
theorem eqA_t0 {x : AV} {xs : List AV} : eqA (.tup (x :: xs)) (.tup []) = false := by simp only [eqA, toD, toDs, PyData.eqv, PyData.eqvAll]
theorem eqA_00 : eqA (.tup []) (.tup []) = true := by simp only [eqA, toD, toDs, PyData.eqv, PyData.eqvAll]
theorem and_four {a b c : Prop} {d : Prop} (ha : a) (hb : b) (hc : c) : (a ∧ b ∧ c ∧ d) = d := propext ⟨fun h => h.2.2.2, fun h => ⟨ha, hb, hc, h⟩⟩
theorem can_str {z : Str} (h : PyData.strOk z = true) : canA (.str z) = true := by
  unfold canA
  simp only [pureV, toD, PyData.canLay0, h, Bool.and_true]
theorem can_nil : canA (.tup []) = true := by decide
theorem mark_tm {t : Trm} (h : t.ok A U) (f : Bool → Bool) : bEqB f t.av (.str "?") m q = q (.bl (f false)) m := by
  have c := Trm.can h
  have c2 : canA (.str "?") = true := by unfold canA; simp only [pureV, toD, PyData.canLay0, mark_ok, Bool.and_true]
  have d : ∀ x, min (PyData.depth x) (toD (.str "?")).depth ≤ 100 := fun x => by
    simp only [toD, PyData.depth]
    omega
  cases t with
  | wd w =>
    show q (.bl (f (decide (w = "?")))) m = _
    rw [decide_eq_false (Word.ne h)]
  | num i =>
    show (canA (.int i) = true ∧ canA (.str "?") = true ∧ _ ∧ q (.bl (f (eqA (.int i) (.str "?")))) m) = _
    exact (and_four c c2 (d _)).trans (by rw [eqA_is])
  | nil =>
    show (canA _ = true ∧ canA (.str "?") = true ∧ _ ∧ q (.bl (f (eqA (.tup []) (.str "?")))) m) = _
    exact (and_four c c2 (d _)).trans (by rw [eqA_ts])
  | unk n =>
    show (canA _ = true ∧ canA (.str "?") = true ∧ _ ∧ q (.bl (f (eqA (.tup _) (.str "?")))) m) = _
    exact (and_four c c2 (d _)).trans (by rw [eqA_ts])
  | pair a b =>
    show (canA _ = true ∧ canA (.str "?") = true ∧ _ ∧ q (.bl (f (eqA (.tup _) (.str "?")))) m) = _
    exact (and_four c c2 (d _)).trans (by rw [eqA_ts])
theorem nil_tm {t : Trm} (h : t.ok A U) (ht : t.isTup = true) (f : Bool → Bool) : bEqB f t.av (.tup []) m q = q (.bl (f t.isNil)) m := by
  have c := Trm.can h
  have d : ∀ x, min (PyData.depth x) (toD (.tup [])).depth ≤ 100 := fun x => by
    simp only [toD, toDs, PyData.depth, PyData.depthAll]
    omega
  cases t with
  | wd w => cases ht
  | num i => cases ht
  | nil =>
    show (canA _ = true ∧ canA (.tup []) = true ∧ _ ∧ q (.bl (f (eqA (.tup []) (.tup [])))) m) = _
    exact (and_four c can_nil (d _)).trans (by rw [eqA_00]; rfl)
  | unk n =>
    show (canA _ = true ∧ canA (.tup []) = true ∧ _ ∧ q (.bl (f (eqA (.tup _) (.tup [])))) m) = _
    exact (and_four c can_nil (d _)).trans (by rw [eqA_t0]; rfl)
  | pair a b =>
    show (canA _ = true ∧ canA (.tup []) = true ∧ _ ∧ q (.bl (f (eqA (.tup _) (.tup [])))) m) = _
    exact (and_four c can_nil (d _)).trans (by rw [eqA_t0]; rfl)
theorem nil_t {x : AV} {xs : List AV} (c : canA (.tup (x :: xs)) = true) (f : Bool → Bool) : bEqB f (.tup (x :: xs)) (.tup []) m q = q (.bl (f false)) m := by
  have d : ∀ x, min (PyData.depth x) (toD (.tup [])).depth ≤ 100 := fun x => by
    simp only [toD, toDs, PyData.depth, PyData.depthAll]
    omega
  show (canA _ = true ∧ canA (.tup []) = true ∧ _ ∧ q (.bl (f (eqA (.tup _) (.tup [])))) m) = _
  exact (and_four c can_nil (d _)).trans (by rw [eqA_t0])
theorem nil_0 (f : Bool → Bool) : bEqB f (.tup []) (.tup []) m q = q (.bl (f true)) m := nil_tm (A := fun _ => True) (U := fun _ => True) (t := .nil) trivial rfl f
theorem bq_str (f : Bool → Bool) {a b : Str} : bEqB f (.str a) (.str b) m q = q (.bl (f (decide (a = b)))) m := rfl
theorem bq_int (f : Bool → Bool) {a b : Int} : bEqB f (.int a) (.int b) m q = q (.bl (f (decide (a = b)))) m := rfl
theorem bq_bl (f : Bool → Bool) {a b : Bool} : bEqB f (.bl a) (.bl b) m q = q (.bl (f (decide (a = b)))) m := rfl
end
end Ab

namespace Ab
open PySem PySem.Spec PyProof.Rows L2
theorem keyOf_kA (k : Key) : keyOf (kA k) = some k := by cases k <;> rfl
def putFA (f : AV → Option (Key × AV)) (acc : List (Key × AV)) (x : AV) : List (Key × AV) := match f x with
  | some (k, z) => putA acc k z
  | none => acc
theorem putA_len (acc : List (Key × AV)) (k : Key) (z : AV) : (putA acc k z).length ≤ acc.length + 1 := by
  unfold putA
  split
  · rw [List.length_map]; omega
  · rw [List.length_append]; exact Nat.le_refl _
theorem putFA_len (f : AV → Option (Key × AV)) (acc : List (Key × AV)) (x : AV) : (putFA f acc x).length ≤ acc.length + 1 := by
  unfold putFA
  split
  · exact putA_len _ _ _
  · omega
section
variable {K : PySem.W.Frag} {m : AHp}
theorem dc_fn {g : ATG} {tt : ATT} {tk tv : ATE} {G : AHp → Prop} {D : Addr} {q : AK} {t : ASt} (f : AV → Option (Key × AV)) (hG : ∀ acc, G (updA m D (.dK acc))) : ∀ (xs : List AV) (acc : List (Key × AV)),
    (∀ x ∈ xs, ∀ acc' : List (Key × AV), ∀ k : Option (AV × AV) → AHp → Prop, k ((f x).map fun p => (kA p.1, p.2)) (updA m D (.dK acc')) → g x t (updA m D (.dK acc')) fun a2 m2 => tt a2 m2 fun b m3 => if b = true then tk a2 m3 fun y m4 => tv a2 m4 fun z m5 => Fg K m5 (k (some (y, z))) else Fg K m3 (k none)) →
    acc.length + xs.length < sizeLine → q (.ref D) (updA m D (.dK (xs.foldl (putFA f) acc))) → dcL K g tt tk tv G D q t xs (updA m D (.dK acc))
  | [], acc, _, _, h => ⟨hG acc, h⟩
  | x :: xs, acc, st, hl, h => by
    have hl : acc.length + (xs.length + 1) < sizeLine := hl
    refine ⟨hG acc, ?_⟩
    refine st x List.mem_cons_self acc (fun o m6 => match o with
      | some (y, z) => match keyOf y, m6 D with
        | some k, some (.dK acc) => acc.length < sizeLine ∧ dcL K g tt tk tv G D q t xs (updA m6 D (.dK (putA acc k z)))
        | _, _ => False
      | none => dcL K g tt tk tv G D q t xs m6) ?_
    rw [List.foldl_cons] at h
    have pl := putFA_len f acc x
    cases e : f x with
    | none =>
      have e2 : putFA f acc x = acc := by unfold putFA; rw [e]
      rw [e2] at h
      exact dc_fn f hG xs acc (fun y hy => st y (List.mem_cons_of_mem _ hy)) (by omega) h
    | some p =>
      obtain ⟨k, z⟩ := p
      have e2 : putFA f acc x = putA acc k z := by unfold putFA; rw [e]
      rw [e2] at h pl
      simp only [Option.map_some, keyOf_kA, updA_same, updA_twice]
      exact ⟨by omega, dc_fn f hG xs (putA acc k z) (fun y hy => st y (List.mem_cons_of_mem _ hy)) (by omega) h⟩
end

def ins (l : List Int) (n : Int) : List Int := if n ∈ l then l else l ++ [n]
def once (l : List Int) : List Int := l.foldl ins []
theorem foldl_snoc {α β : Type} (f : β → α → β) (b : β) (l : List α) (x : α) : (l ++ [x]).foldl f b = f (l.foldl f b) x := by rw [List.foldl_append]; rfl
theorem snocInd {α : Type} {P : List α → Prop} (h0 : P []) (h1 : ∀ l x, P l → P (l ++ [x])) (l : List α) : P l := by
  have h : ∀ r : List α, P r.reverse := by
    intro r
    induction r with
    | nil => exact h0
    | cons x r ih => rw [List.reverse_cons]; exact h1 _ _ ih
  have := h l.reverse
  rwa [List.reverse_reverse] at this
theorem once_mem (x : Int) (l : List Int) : x ∈ once l ↔ x ∈ l := by
  revert x
  induction l using snocInd with
  | h0 => exact fun _ => Iff.rfl
  | h1 l y ih =>
    intro x
    unfold once at ih ⊢
    rw [foldl_snoc, List.mem_append, List.mem_singleton]
    generalize l.foldl ins [] = F at ih ⊢
    unfold ins
    split
    · rename_i h
      rw [ih]
      exact ⟨.inl, fun z => z.elim id fun e => by rw [e]; exact (ih y).mp h⟩
    · rw [List.mem_append, List.mem_singleton, ih]
theorem once_from (acc l : List Int) : l.foldl ins acc = acc ++ (once l).filter fun n => !decide (n ∈ acc) := by
  induction l using snocInd with
  | h0 => simp [once]
  | h1 l y ih =>
    have hy := once_mem y l
    unfold once at ih hy ⊢
    rw [foldl_snoc, foldl_snoc, ih]
    generalize l.foldl ins [] = F at hy ⊢
    unfold ins
    by_cases h1 : y ∈ F
    · rw [if_pos h1]
      by_cases h2 : y ∈ acc
      · rw [if_pos (List.mem_append.mpr (.inl h2))]
      · rw [if_pos (List.mem_append.mpr (.inr (List.mem_filter.mpr ⟨h1, by simpa using h2⟩)))]
    · rw [if_neg h1, List.filter_append]
      by_cases h2 : y ∈ acc
      · rw [if_pos (List.mem_append.mpr (.inl h2))]
        simp [h2]
      · rw [if_neg (fun z => (List.mem_append.mp z).elim h2 fun z => h1 (List.mem_filter.mp z).1)]
        simp [h2]
theorem once_append (a b : List Int) : once (a ++ b) = once a ++ (once b).filter fun n => !decide (n ∈ once a) := by
  show (a ++ b).foldl ins [] = _
  rw [List.foldl_append]
  exact once_from (once a) b
theorem once_filter (p : Int → Bool) (l : List Int) : once (l.filter p) = (once l).filter p := by
  induction l using snocInd with
  | h0 => rfl
  | h1 l y ih =>
    have hy := once_mem y l
    rw [List.filter_append]
    unfold once at ih hy ⊢
    rw [List.foldl_append, ih, foldl_snoc]
    generalize l.foldl ins [] = F at hy ⊢
    cases hp : p y with
    | false =>
      rw [List.filter_cons_of_neg (by simp [hp]), List.filter_nil]
      unfold ins
      split
      · rfl
      · rw [List.filter_append, List.filter_cons_of_neg (by simp [hp]), List.filter_nil, List.append_nil]; rfl
    | true =>
      rw [List.filter_cons_of_pos hp, List.filter_nil]
      show ins (F.filter p) y = _
      unfold ins
      by_cases h1 : y ∈ F
      · rw [if_pos h1, if_pos (List.mem_filter.mpr ⟨h1, hp⟩)]
      · rw [if_neg h1, if_neg (fun z => h1 (List.mem_filter.mp z).1), List.filter_append, List.filter_cons_of_pos hp, List.filter_nil]
theorem once_len (l : List Int) : (once l).length ≤ l.length := by
  induction l using snocInd with
  | h0 => exact Nat.le_refl _
  | h1 l y ih =>
    unfold once at ih ⊢
    rw [foldl_snoc, List.length_append, List.length_singleton]
    generalize l.foldl ins [] = F at ih ⊢
    unfold ins
    split
    · omega
    · rw [List.length_append, List.length_singleton]; omega
def Trm.nums : Trm → List Int
  | .unk n => [n]
  | .pair a b => a.nums ++ b.nums
  | _ => []
def Trm.unks (t : Trm) : List Int := once t.nums
def Trm.sub (n : Int) (w : Str) : Trm → Trm
  | .unk k => if k = n then .wd w else .unk k
  | .pair a b => .pair (a.sub n w) (b.sub n w)
  | t => t
theorem Trm.sub_nums (n : Int) (w : Str) : ∀ t : Trm, (t.sub n w).nums = t.nums.filter fun k => !decide (k = n)
  | .num _ => rfl
  | .wd _ => rfl
  | .nil => rfl
  | .unk k => by
    unfold Trm.sub
    by_cases h : k = n
    · rw [if_pos h]; simp [Trm.nums, h]
    · rw [if_neg h]; simp [Trm.nums, h]
  | .pair a b => by simp only [Trm.sub, Trm.nums, Trm.sub_nums n w a, Trm.sub_nums n w b, List.filter_append]
theorem Trm.sub_unks (n : Int) (w : Str) (t : Trm) : (t.sub n w).unks = t.unks.filter fun k => !decide (k = n) := by
  unfold Trm.unks
  rw [Trm.sub_nums, once_filter]
theorem Trm.sub_ok {A U : Int → Prop} {n : Int} {w : Str} (hw : Word w) : ∀ {t : Trm}, t.ok A U → (t.sub n w).ok A U
  | .num _, h => h
  | .wd _, h => h
  | .nil, h => h
  | .unk k, h => by
    unfold Trm.sub
    split
    · exact hw
    · exact h
  | .pair _ _, h => ⟨Trm.sub_ok hw h.1, Trm.sub_ok hw h.2⟩
theorem Trm.sub_deep {n : Int} {w : Str} : ∀ t : Trm, (t.sub n w).deep = t.deep
  | .num _ => rfl
  | .wd _ => rfl
  | .nil => rfl
  | .unk k => by unfold Trm.sub; split <;> rfl
  | .pair a b => by simp only [Trm.sub, Trm.deep, Trm.sub_deep a, Trm.sub_deep b]
theorem Trm.sub_pairs {n : Int} {w : Str} : ∀ t : Trm, (t.sub n w).pairs = t.pairs
  | .num _ => rfl
  | .wd _ => rfl
  | .nil => rfl
  | .unk k => by unfold Trm.sub; split <;> rfl
  | .pair a b => by simp only [Trm.sub, Trm.pairs, Trm.sub_pairs a, Trm.sub_pairs b]
theorem Trm.nums_ok {A U : Int → Prop} : ∀ {t : Trm}, t.ok A U → ∀ x ∈ t.nums, U x
  | .num _, _, x, hx => by simp [Trm.nums] at hx
  | .wd _, _, x, hx => by simp [Trm.nums] at hx
  | .nil, _, x, hx => by simp [Trm.nums] at hx
  | .unk k, h, x, hx => by simp only [Trm.nums, List.mem_singleton] at hx; subst hx; exact h
  | .pair a b, h, x, hx => by
    simp only [Trm.nums, List.mem_append] at hx
    exact hx.elim (Trm.nums_ok h.1 x) (Trm.nums_ok h.2 x)
theorem Trm.nums_len : ∀ t : Trm, t.nums.length ≤ t.pairs + 1
  | .num _ => Nat.zero_le _
  | .wd _ => Nat.zero_le _
  | .nil => Nat.zero_le _
  | .unk _ => Nat.le_refl _
  | .pair a b => by
    have := Trm.nums_len a
    have := Trm.nums_len b
    simp only [Trm.nums, Trm.pairs, List.length_append]
    omega
def Trm.num? : Trm → Option Int
  | .unk n => some n
  | _ => none
theorem Trm.tips_nums : ∀ t : Trm, t.tips.filterMap Trm.num? = t.nums
  | .num _ => rfl
  | .wd _ => rfl
  | .nil => rfl
  | .unk _ => rfl
  | .pair a b => by simp only [Trm.tips, Trm.nums, List.filterMap_append, Trm.tips_nums a, Trm.tips_nums b]
theorem pure_ints : ∀ l : List Int, pureVs (l.map AV.int) = true
  | [] => by simp [pureVs]
  | n :: l => by simp [pureVs, pureV, pure_ints l]
theorem can_ints : ∀ l : List Int, canAs (l.map AV.int) = true := fun l => by
  have h : ∀ l : List Int, PyData.canLayAll0 (toDs (l.map AV.int)) = true := by
    intro l
    induction l with
    | nil => simp [toDs, PyData.canLayAll0]
    | cons n l ih => simp [toDs, toD, PyData.canLayAll0, PyData.canLay0, ih]
  unfold canAs
  rw [pure_ints, h]
  rfl
theorem can_i (n : Int) : canA (.int n) = true := Trm.can (A := fun _ => True) (U := fun _ => True) (t := .num n) trivial
theorem can_tup {xs : List AV} (h : canAs xs = true) : canA (.tup xs) = true := by
  unfold canAs at h
  unfold canA
  simp only [pureV, toD, PyData.canLay0]
  exact h
theorem depth_ints : ∀ l : List Int, PyData.depthAll (toDs (l.map AV.int)) ≤ 1
  | [] => by simp [toDs, PyData.depthAll]
  | n :: l => by
    have := depth_ints l
    simp only [List.map_cons, toDs, toD, PyData.depthAll, PyData.depth]
    omega
theorem eqv_ints : ∀ l : List Int, PyData.eqvAll (toDs (l.map AV.int)) (toDs (l.map AV.int)) = true
  | [] => by simp [toDs, PyData.eqvAll]
  | n :: l => by simp [toDs, toD, PyData.eqvAll, PyData.eqv, eqv_ints l]
section
variable {m : AHp} {q : AK}
theorem bq_nil_ints (l : List Int) (f : Bool → Bool) : bEqB f (.tup (l.map AV.int)) (.tup []) m q = q (.bl (f l.isEmpty)) m := by
  cases l with
  | nil => exact nil_0 f
  | cons n l => exact nil_t (can_tup (can_ints (n :: l))) f
theorem bq_ints {a b : Addr} {l : List Int} (ha : m a = some (.lst (l.map AV.int))) (hb : m b = some (.lst (l.map AV.int))) (f : Bool → Bool) : bEqB f (.ref a) (.ref b) m q = q (.bl (f true)) m := by
  show (match m a, m b with | some (.lst xs), some (.lst ys) => (if xs.length = ys.length then canAs xs = true ∧ canAs ys = true ∧ min (PyData.depthAll (toDs xs)) (PyData.depthAll (toDs ys)) ≤ 100 ∧ q (.bl (f (PyData.eqvAll (toDs xs) (toDs ys)))) m else q (.bl (f false)) m) | _, _ => False) = _
  have d := depth_ints l
  rw [ha, hb]
  simp only [if_true]
  exact (and_four (can_ints l) (can_ints l) (by omega)).trans (by rw [eqv_ints])
theorem in_ints {p : Addr} {l : List Int} {n : Int} (h : m p = some (.lst (l.map AV.int))) (f : Bool → Bool) : bInB f (.int n) (.ref p) m q = q (.bl (f (decide (n ∈ l)))) m := by
  show (match m p with
    | some (.lst xs) => canA (.int n) = true ∧ canAs xs = true ∧ min (PyData.depthAll (toDs xs)) (toD (.int n)).depth ≤ 100 ∧ q (.bl (f (xs.any fun z => eqA z (.int n)))) m
    | some (.dK kvs) => match keyOf (.int n) with
      | some k => q (.bl (f (getK kvs k).isSome)) m
      | none => False
    | _ => False) = _
  have d := depth_ints l
  rw [h]
  have e : ((l.map AV.int).any fun z => eqA z (.int n)) = decide (n ∈ l) := by
    rw [List.any_map, Bool.eq_iff_iff, List.any_eq_true, decide_eq_true_iff]
    constructor
    · rintro ⟨x, hx, h⟩
      have h : eqA (.int x) (.int n) = true := h
      rw [eqA_int] at h
      exact of_decide_eq_true h ▸ hx
    · exact fun h => ⟨n, h, by show eqA (.int n) (.int n) = true; rw [eqA_int]; exact decide_eq_true rfl⟩
  exact (and_four (can_i n) (can_ints l) (by omega)).trans (by rw [e])
end
def keepF (p : Int → Bool) : AV → Option AV
  | .int n => if p n = true then some (.int n) else none
  | x => some x
theorem keepF_map (p : Int → Bool) : ∀ l : List Int, (l.map AV.int).filterMap (keepF p) = (l.filter p).map AV.int
  | [] => rfl
  | n :: l => by
    cases h : p n with
    | true => rw [List.map_cons, List.filterMap_cons_some (b := .int n) (show (if p n = true then some (AV.int n) else none) = some (.int n) from if_pos h), List.filter_cons_of_pos h, keepF_map p l]; rfl
    | false => rw [List.map_cons, List.filterMap_cons_none (show keepF p (.int n) = none from if_neg (by rw [h]; exact Bool.false_ne_true)), List.filter_cons_of_neg (by rw [h]; exact Bool.false_ne_true), keepF_map p l]
end Ab

namespace Ab
open PySem PySem.Spec PyProof.Rows L2
theorem small_text : ∀ n : Nat, n < 1000 → (PyData.int (n : Int)).shown.length ≤ 3 := by decide +kernel
theorem tuple_len {ts : List Str} {b : Nat} (h : ∀ t ∈ ts, t.length ≤ b) : (tupleText ts).length ≤ 3 + ts.length * (b + 2) := by
  have e : ∀ ts : List Str, (∀ t ∈ ts, t.length ≤ b) → (ts.map (·.length)).sum ≤ ts.length * b := by
    intro ts
    induction ts with
    | nil => intro _; simp
    | cons t ts ih =>
      intro h
      have h1 := h t List.mem_cons_self
      have h2 := ih fun x hx => h x (List.mem_cons_of_mem _ hx)
      rw [List.map_cons, List.sum_cons, List.length_cons, Nat.succ_mul]
      omega
  have h1 := StrLaws.join_length_le ", " ts
  have h2 := e ts h
  have e2 : (Str.ofString ", ").length = 2 := rfl
  rw [e2] at h1
  unfold tupleText
  have e3 : (Str.ofString "(").length = 1 := rfl
  have e4 : ∀ c : Bool, (Str.ofString (if c = true then ",)" else ")")).length ≤ 2 := by
    intro c
    cases c <;> decide
  have e5 := e4 (ts.length == 1)
  rw [len_add, len_add, e3, Nat.mul_add]
  omega
theorem shown_ints : ∀ l : List Int, (∀ n ∈ l, 0 ≤ n ∧ n < 1000) → ∀ t ∈ PyData.shownAll (toDs (l.map AV.int)), t.length ≤ 3
  | [], _, t, ht => by simp [toDs, PyData.shownAll] at ht
  | n :: l, h, t, ht => by
    simp only [List.map_cons, toDs, toD, PyData.shownAll, List.mem_cons] at ht
    rcases ht with rfl | ht
    · have := h n List.mem_cons_self
      have e : n = ((n.toNat : Nat) : Int) := by omega
      rw [e]
      exact small_text _ (by omega)
    · exact shown_ints l (fun x hx => h x (List.mem_cons_of_mem _ hx)) t ht
theorem shownAll_len : ∀ l : List AV, (PyData.shownAll (toDs l)).length = l.length
  | [] => by simp [toDs, PyData.shownAll]
  | x :: l => by simp [toDs, PyData.shownAll, shownAll_len l]
theorem showable_ints : ∀ l : List Int, (∀ n ∈ l, 0 ≤ n ∧ n < 1000) → PyData.showableAll (toDs (l.map AV.int)) = true
  | [], _ => by simp [toDs, PyData.showableAll]
  | n :: l, h => by
    have h1 := h n List.mem_cons_self
    have h2 : n.natAbs.log2 < 1920 := (Nat.lt_of_le_of_lt (Nat.log2_le_self _) (by omega))
    simp [toDs, toD, PyData.showableAll, PyData.showable, h2, showable_ints l (fun x hx => h x (List.mem_cons_of_mem _ hx))]
section
variable {m : AHp} {q : AK}
theorem repr_ints {l : List Int} (h : ∀ n ∈ l, 0 ≤ n ∧ n < 1000) (hl : l.length ≤ 100000) : bRepr [.tup (l.map AV.int)] m q = q (.str (toD (.tup (l.map AV.int))).shown) m := by
  show (pureV _ = true ∧ (toD (.tup (l.map AV.int))).showable = true ∧ (toD (.tup (l.map AV.int))).depth ≤ 150 ∧ (toD (.tup (l.map AV.int))).shown.length ≤ sizeLine ∧ _) = _
  have d := depth_ints l
  have z := tuple_len (shown_ints l h)
  rw [shownAll_len, List.length_map] at z
  refine propext ⟨fun h => h.2.2.2.2, fun k => ⟨?_, ?_, ?_, ?_, k⟩⟩
  · simp only [pureV, pure_ints]
  · simp only [toD, PyData.showable, showable_ints l h]
  · simp only [toD, PyData.depth]; omega
  · simp only [toD, PyData.shown]
    exact (show _ ≤ 16777216 by omega)
theorem repr_bl {b : Bool} : bRepr [.bl b] m q = q (.str (toD (.bl b)).shown) m := by
  show (pureV _ = true ∧ (toD (.bl b)).showable = true ∧ (toD (.bl b)).depth ≤ 150 ∧ (toD (.bl b)).shown.length ≤ sizeLine ∧ _) = _
  refine propext ⟨fun h => h.2.2.2.2, fun k => ⟨?_, ?_, ?_, ?_, k⟩⟩
  · simp only [pureV]
  · simp only [toD, PyData.showable]
  · simp only [toD, PyData.depth]; omega
  · cases b <;> decide
end
end Ab

namespace Ab
open PySem PySem.Spec PyProof.Rows L2
mutual
def fine : AV → Bool
  | .non => true
  | .bl _ => true
  | .int i => decide (i.natAbs < 10 ^ 40)
  | .str x => PyData.strOk x
  | .tup xs => fines xs
  | .ref _ => false
  | .ty _ => false
  | .scr _ => false
  | .raw _ => false
def fines : List AV → Bool
  | [] => true
  | x :: xs => fine x && fines xs
end
theorem log40 {n k : Nat} (h : n < 10 ^ 40) (hk : 133 ≤ k) : n.log2 < k := by
  by_cases h0 : n = 0
  · subst h0
    have : Nat.log2 0 = 0 := by decide
    omega
  · refine (Nat.log2_lt h0).mpr (Nat.lt_of_lt_of_le h (Nat.le_trans (by decide +kernel : 10 ^ 40 ≤ 2 ^ 133) (Nat.pow_le_pow_right (by decide) hk)))
mutual
theorem fine_pure : ∀ x : AV, fine x = true → pureV x = true
  | .non, _ => by simp only [pureV]
  | .bl _, _ => by simp only [pureV]
  | .int _, _ => by simp only [pureV]
  | .str _, _ => by simp only [pureV]
  | .tup xs, h => by simp only [fine] at h; simp only [pureV]; exact fines_pure xs h
  | .ref _, h => by simp [fine] at h
  | .ty _, h => by simp [fine] at h
  | .scr _, h => by simp [fine] at h
  | .raw _, h => by simp [fine] at h
theorem fines_pure : ∀ xs : List AV, fines xs = true → pureVs xs = true
  | [], _ => by simp only [pureVs]
  | x :: xs, h => by
    simp only [fines, Bool.and_eq_true] at h
    simp only [pureVs, Bool.and_eq_true]
    exact ⟨fine_pure x h.1, fines_pure xs h.2⟩
end
mutual
theorem fine_lay : ∀ x : AV, fine x = true → (toD x).canLay0 = true
  | .non, _ => by simp only [toD, PyData.canLay0]
  | .bl _, _ => by simp only [toD, PyData.canLay0]
  | .int _, _ => by simp only [toD, PyData.canLay0]
  | .str _, h => by simp only [fine] at h; simp only [toD, PyData.canLay0]; exact h
  | .tup xs, h => by simp only [fine] at h; simp only [toD, PyData.canLay0]; exact fines_lay xs h
  | .ref _, h => by simp [fine] at h
  | .ty _, h => by simp [fine] at h
  | .scr _, h => by simp [fine] at h
  | .raw _, h => by simp [fine] at h
theorem fines_lay : ∀ xs : List AV, fines xs = true → PyData.canLayAll0 (toDs xs) = true
  | [], _ => by simp only [toDs, PyData.canLayAll0]
  | x :: xs, h => by
    simp only [fines, Bool.and_eq_true] at h
    simp only [toDs, PyData.canLayAll0, Bool.and_eq_true]
    exact ⟨fine_lay x h.1, fines_lay xs h.2⟩
end
mutual
theorem fine_show : ∀ x : AV, fine x = true → (toD x).showable = true
  | .non, _ => by simp only [toD, PyData.showable]
  | .bl _, _ => by simp only [toD, PyData.showable]
  | .int i, h => by
    simp only [fine, decide_eq_true_eq] at h
    simp only [toD, PyData.showable, decide_eq_true_eq]
    exact log40 h (by decide)
  | .str _, _ => by simp only [toD, PyData.showable]
  | .tup xs, h => by simp only [fine] at h; simp only [toD, PyData.showable]; exact fines_show xs h
  | .ref _, h => by simp [fine] at h
  | .ty _, h => by simp [fine] at h
  | .scr _, h => by simp [fine] at h
  | .raw _, h => by simp [fine] at h
theorem fines_show : ∀ xs : List AV, fines xs = true → PyData.showableAll (toDs xs) = true
  | [], _ => by simp only [toDs, PyData.showableAll]
  | x :: xs, h => by
    simp only [fines, Bool.and_eq_true] at h
    simp only [toDs, PyData.showableAll, Bool.and_eq_true]
    exact ⟨fine_show x h.1, fines_show xs h.2⟩
end
mutual
theorem fine_short : ∀ x : AV, fine x = true → (toD x).leavesShort 41 = true
  | .non, _ => by simp only [toD, PyData.leavesShort]
  | .bl _, _ => by simp only [toD, PyData.leavesShort]
  | .int i, h => by
    simp only [fine, decide_eq_true_eq] at h
    simp only [toD, PyData.leavesShort, PyData.shown, decide_eq_true_eq]
    have e := int_text_length_le10 (k := 40) (by decide) h
    exact decide_eq_true (Nat.le_trans (Nat.le_of_eq (PySem.ofString_length _)) e)
  | .str x, h => by
    simp only [fine] at h
    simp only [toD, PyData.leavesShort]
    unfold PyData.strOk at h
    rw [← Array.all_toList, List.all_eq_true] at h
    rw [List.all_eq_true]
    intro c hc
    have := of_decide_eq_true (h c hc)
    exact decide_eq_true (Nat.lt_trans this (by decide))
  | .tup xs, h => by simp only [fine] at h; simp only [toD, PyData.leavesShort]; exact fines_short xs h
  | .ref _, h => by simp [fine] at h
  | .ty _, h => by simp [fine] at h
  | .scr _, h => by simp [fine] at h
  | .raw _, h => by simp [fine] at h
theorem fines_short : ∀ xs : List AV, fines xs = true → PyData.leavesShortAll 41 (toDs xs) = true
  | [], _ => by simp only [toDs, PyData.leavesShortAll]
  | x :: xs, h => by
    simp only [fines, Bool.and_eq_true] at h
    simp only [toDs, PyData.leavesShortAll, Bool.and_eq_true]
    exact ⟨fine_short x h.1, fines_short xs h.2⟩
end
theorem fine_can {x : AV} (h : fine x = true) : canA x = true := by
  unfold canA
  rw [fine_pure x h, fine_lay x h]
  rfl
theorem fines_can {xs : List AV} (h : fines xs = true) : canAs xs = true := by
  unfold canAs
  rw [fines_pure xs h, fines_lay xs h]
  rfl
theorem shown_fine {x : AV} (h : fine x = true) (hw : (toD x).weight ≤ 390000) : (toD x).shown.length ≤ sizeLine := by
  have e := PyData.shown_le 41 (by decide) (toD x) (fine_short x h)
  exact (show _ ≤ 16777216 by omega)
theorem fines_all {xs : List AV} (h : ∀ x ∈ xs, fine x = true) : fines xs = true := by
  induction xs with
  | nil => simp only [fines]
  | cons x xs ih =>
    simp only [fines, Bool.and_eq_true]
    exact ⟨h x List.mem_cons_self, ih fun y hy => h y (List.mem_cons_of_mem _ hy)⟩
section
variable {m : AHp} {q : AK}
theorem repr_fine {x : AV} (h : fine x = true) (hd : (toD x).depth ≤ 150) (hw : (toD x).weight ≤ 390000) : bRepr [x] m q = q (.str (toD x).shown) m := by
  have main : (pureV x = true ∧ (toD x).showable = true ∧ (toD x).depth ≤ 150 ∧ (toD x).shown.length ≤ sizeLine ∧ q (.str (toD x).shown) m) = q (.str (toD x).shown) m :=
    propext ⟨fun z => z.2.2.2.2, fun z => ⟨fine_pure x h, fine_show x h, hd, shown_fine h hw, z⟩⟩
  cases x <;> first | exact main | (simp [fine] at h)
theorem eqA_self {x : AV} (h : fine x = true) : eqA x x = true := SeqAt.eqv_refl _ (fine_lay x h)
theorem bq_same {xs : List AV} (h : fine (.tup xs) = true) (hd : (toD (.tup xs)).depth ≤ 100) (f : Bool → Bool) : bEqB f (.tup xs) (.tup xs) m q = q (.bl (f true)) m := by
  show (canA _ = true ∧ canA _ = true ∧ _ ∧ q (.bl (f (eqA (.tup xs) (.tup xs)))) m) = _
  exact (and_four (fine_can h) (fine_can h) (by omega)).trans (by rw [eqA_self h])
end
def Small (i : Int) : Prop := i.natAbs < 10 ^ 40
theorem Far.small {i : Int} (h : Far i) : Small i := by
  unfold Far at h
  unfold Small
  have : i.natAbs ≤ 1000000000000 := by omega
  exact Nat.lt_of_le_of_lt this (by decide +kernel)
theorem Trm.fine {A U : Int → Prop} (ha : ∀ i, A i → Small i) (hu : ∀ i, U i → Small i) : ∀ {t : Trm}, t.ok A U → Ab.fine t.av = true
  | .num i, h => by simp only [Trm.av, Ab.fine, decide_eq_true_eq]; exact ha i h
  | .wd w, h => by simp only [Trm.av, Ab.fine]; exact Word.ok h
  | .nil, _ => by simp only [Trm.av, Ab.fine, fines]
  | .unk n, h => by
    simp only [Trm.av, Ab.fine, fines, Bool.and_true, Bool.and_eq_true, decide_eq_true_eq]
    exact ⟨mark_ok, hu n h⟩
  | .pair a b, h => by
    simp only [Trm.av, Ab.fine, fines, Bool.and_true, Bool.and_eq_true]
    exact ⟨Trm.fine ha hu h.1, Trm.fine ha hu h.2⟩
theorem Trm.depth_le : ∀ t : Trm, (toD t.av).depth ≤ t.deep
  | .num i => by simp [Trm.av, toD, PyData.depth]
  | .wd i => by simp [Trm.av, toD, PyData.depth]
  | .nil => by simp [Trm.av, toD, toDs, PyData.depth, PyData.depthAll, Trm.deep]
  | .unk i => by simp [Trm.av, toD, toDs, PyData.depth, PyData.depthAll, Trm.deep]
  | .pair a b => by
    have h1 := Trm.depth_le a
    have h2 := Trm.depth_le b
    simp only [Trm.av, toD, toDs, PyData.depth, PyData.depthAll, Trm.deep]
    omega
theorem int_weight {i : Int} (h : Small i) : (PyData.int i).weight ≤ 133 := by
  simp only [PyData.weight]
  split
  · omega
  · have := log40 (k := 133) h (by decide)
    omega
theorem Trm.weight_le {A U : Int → Prop} (ha : ∀ i, A i → Small i) (hu : ∀ i, U i → Small i) : ∀ {t : Trm}, t.ok A U → (toD t.av).weight ≤ 140 * t.size
  | .num i, h => by
    have := int_weight (ha i h)
    simp only [Trm.av, toD, Trm.size]
    omega
  | .wd w, h => by
    have h2 := h.2.1
    simp only [Trm.av, toD, PyData.weight, Trm.size]
    have : w.cps.size ≤ 8 := h2
    omega
  | .nil, _ => by simp [Trm.av, toD, toDs, PyData.weight, PyData.weightAll]
  | .unk n, h => by
    have := int_weight (hu n h)
    have e : (PyData.str (Str.ofString "?")).weight = 1 := by decide +kernel
    simp only [Trm.av, toD, toDs, PyData.weightAll, Trm.size]
    have e2 : (PyData.tuple [PyData.str (Str.ofString "?"), PyData.int n]).weight = (PyData.str (Str.ofString "?")).weight + 1 + ((PyData.int n).weight + 1 + 0) := by
      simp only [PyData.weight, PyData.weightAll]
    rw [e2, e]
    omega
  | .pair a b, h => by
    have h1 := Trm.weight_le ha hu h.1
    have h2 := Trm.weight_le ha hu h.2
    simp only [Trm.av, toD, toDs, PyData.weight, PyData.weightAll, Trm.size]
    omega
theorem terms_fine {A U : Int → Prop} (ha : ∀ i, A i → Small i) (hu : ∀ i, U i → Small i) {ts : List Trm} (h : ∀ t ∈ ts, t.ok A U) : Ab.fine (.tup (ts.map Trm.av)) = true := by
  simp only [Ab.fine]
  refine fines_all fun x hx => ?_
  obtain ⟨t, ht, rfl⟩ := List.mem_map.mp hx
  exact Trm.fine ha hu (h t ht)
theorem terms_depth {d : Nat} : ∀ {ts : List Trm}, (∀ t ∈ ts, t.deep ≤ d) → (toD (.tup (ts.map Trm.av))).depth ≤ d + 1 := by
  intro ts h
  simp only [toD, PyData.depth]
  have : PyData.depthAll (toDs (ts.map Trm.av)) ≤ d := by
    induction ts with
    | nil => simp [toDs, PyData.depthAll]
    | cons t ts ih =>
      have h1 := h t List.mem_cons_self
      have h2 := Trm.depth_le t
      have h3 := ih fun y hy => h y (List.mem_cons_of_mem _ hy)
      simp only [List.map_cons, toDs, PyData.depthAll]
      omega
  omega
theorem terms_weight {A U : Int → Prop} (ha : ∀ i, A i → Small i) (hu : ∀ i, U i → Small i) {p : Nat} {ts : List Trm} (h : ∀ t ∈ ts, t.ok A U) (hp : ∀ t ∈ ts, t.pairs ≤ p) : (toD (.tup (ts.map Trm.av))).weight ≤ ts.length * (280 * p + 141) := by
  simp only [toD, PyData.weight]
  induction ts with
  | nil => simp [toDs, PyData.weightAll]
  | cons t ts ih =>
    have h1 := Trm.weight_le ha hu (h t List.mem_cons_self)
    have h2 := hp t List.mem_cons_self
    have h3 := ih (fun y hy => h y (List.mem_cons_of_mem _ hy)) fun y hy => hp y (List.mem_cons_of_mem _ hy)
    have h4 := Trm.size_pairs t
    have h5 : (toD t.av).weight + 1 ≤ 280 * p + 141 := by omega
    generalize 280 * p + 141 = c at h3 h5 ⊢
    simp only [List.map_cons, toDs, PyData.weightAll, List.length_cons, Nat.succ_mul]
    omega
section
variable {K : PySem.W.Frag} {m : AHp}
theorem lc_fmT {β : Type} {g : ATG} {tt : ATT} {te : ATE} {G : AHp → Prop} {D : Addr} {q : AK} {t : ASt} (e : β → AV) (f : β → Option AV) (hG : ∀ acc, G (updA m D (.lst acc))) : ∀ (xs : List β) (acc : List AV),
    (∀ x ∈ xs, ∀ acc' : List AV, ∀ k : Option AV → AHp → Prop, k (f x) (updA m D (.lst acc')) → g (e x) t (updA m D (.lst acc')) fun a2 m2 => tt a2 m2 fun b m3 => if b = true then te a2 m3 fun y m4 => Fg K m4 (k (some y)) else Fg K m3 (k none)) →
    acc.length + xs.length < sizeLine → q (.ref D) (updA m D (.lst (acc ++ xs.filterMap f))) → lcL K g tt te G D q t (xs.map e) (updA m D (.lst acc))
  | [], acc, _, _, h => ⟨hG acc, by simpa using h⟩
  | x :: xs, acc, st, hl, h => by
    have hl : acc.length + (xs.length + 1) < sizeLine := hl
    refine ⟨hG acc, ?_⟩
    refine st x List.mem_cons_self acc (fun o m5 => match o with
      | some y => match m5 D with
        | some (.lst acc) => acc.length < sizeLine ∧ lcL K g tt te G D q t (xs.map e) (updA m5 D (.lst (acc ++ [y])))
        | _ => False
      | none => lcL K g tt te G D q t (xs.map e) m5) ?_
    cases o : f x with
    | none =>
      rw [List.filterMap_cons_none o] at h
      exact lc_fmT e f hG xs acc (fun y hy => st y (List.mem_cons_of_mem _ hy)) (by omega) h
    | some y =>
      rw [List.filterMap_cons_some o] at h
      simp only [updA_same, updA_twice]
      refine ⟨by omega, lc_fmT e f hG xs (acc ++ [y]) (fun y hy => st y (List.mem_cons_of_mem _ hy)) (by rw [List.length_append, List.length_singleton]; omega) ?_⟩
      simpa using h
theorem lc_mapT {β : Type} {g : ATG} {tt : ATT} {te : ATE} {G : AHp → Prop} {D : Addr} {q : AK} {t : ASt} (e f : β → AV) (hG : ∀ acc, G (updA m D (.lst acc))) (xs : List β)
    (st : ∀ x ∈ xs, ∀ acc' : List AV, ∀ k : Option AV → AHp → Prop, k (some (f x)) (updA m D (.lst acc')) → g (e x) t (updA m D (.lst acc')) fun a2 m2 => tt a2 m2 fun b m3 => if b = true then te a2 m3 fun y m4 => Fg K m4 (k (some y)) else Fg K m3 (k none))
    (hl : xs.length < sizeLine) (h : q (.ref D) (updA m D (.lst (xs.map f)))) : lcL K g tt te G D q t (xs.map e) (updA m D (.lst [])) := by
  refine lc_fmT e (fun x => some (f x)) hG xs [] st (by simpa using hl) ?_
  rw [List.filterMap_eq_map']
  simpa using h
theorem dc2_fn {g : ATG} {tt : ATT} {wj : ATI} {h : ATG} {tu : ATT} {tk tv : ATE} {us : List Nat} {G : AHp → Prop} {D : Addr} {q : AK} {t : ASt} {β : Type} (e : β → AV) (step : List (Key × AV) → β → List (Key × AV)) (P : List (Key × AV) → List β → Prop) (hG : ∀ acc, G (updA m D (.dK acc))) : ∀ (xs : List β) (acc : List (Key × AV)),
    (∀ x r acc', P acc' (x :: r) → P (step acc' x) r) →
    (∀ x r, ∀ acc' : List (Key × AV), P acc' (x :: r) → ∀ k : AHp → Prop, k (updA m D (.dK (step acc' x))) → g (e x) t (updA m D (.dK acc')) fun a2 m2 => tt a2 m2 fun b m3 => if b = true then wj a2 m3 fun ys G2 m4 => dcL K h tu tk tv G2 D (fun _ m5 => Fg K m5 k) (wipeA a2 us) ys m4 else Fg K m3 k) →
    P acc xs → (∀ acc', P acc' [] → acc' = xs.foldl step acc → q (.ref D) (updA m D (.dK acc'))) → dc2L K g tt wj h tu tk tv us G D q t (xs.map e) (updA m D (.dK acc))
  | [], acc, _, _, hp, hq => ⟨hG acc, hq acc hp rfl⟩
  | x :: xs, acc, hP, st, hp, hq => by
    refine ⟨hG acc, ?_⟩
    refine st x xs acc hp (fun m6 => dc2L K g tt wj h tu tk tv us G D q t (xs.map e) m6) ?_
    exact dc2_fn e step P hG xs (step acc x) hP st (hP x xs acc hp) fun acc' h1 h2 => hq acc' h1 (by rw [List.foldl_cons]; exact h2)
end
def Trm.ren (f : Int → Int) : Trm → Trm
  | .unk n => .unk (f n)
  | .pair a b => .pair (a.ren f) (b.ren f)
  | t => t
theorem Trm.ren_nums (f : Int → Int) : ∀ t : Trm, (t.ren f).nums = t.nums.map f
  | .num _ => rfl
  | .wd _ => rfl
  | .nil => rfl
  | .unk _ => rfl
  | .pair a b => by simp only [Trm.ren, Trm.nums, List.map_append, Trm.ren_nums f a, Trm.ren_nums f b]
theorem Trm.ren_deep (f : Int → Int) : ∀ t : Trm, (t.ren f).deep = t.deep
  | .num _ => rfl
  | .wd _ => rfl
  | .nil => rfl
  | .unk _ => rfl
  | .pair a b => by simp only [Trm.ren, Trm.deep, Trm.ren_deep f a, Trm.ren_deep f b]
theorem Trm.ren_pairs (f : Int → Int) : ∀ t : Trm, (t.ren f).pairs = t.pairs
  | .num _ => rfl
  | .wd _ => rfl
  | .nil => rfl
  | .unk _ => rfl
  | .pair a b => by simp only [Trm.ren, Trm.pairs, Trm.ren_pairs f a, Trm.ren_pairs f b]
theorem Trm.ren_ren (f g : Int → Int) : ∀ t : Trm, (t.ren f).ren g = t.ren fun n => g (f n)
  | .num _ => rfl
  | .wd _ => rfl
  | .nil => rfl
  | .unk _ => rfl
  | .pair a b => by simp only [Trm.ren, Trm.ren_ren f g a, Trm.ren_ren f g b]
theorem Trm.ren_congr {f g : Int → Int} : ∀ {t : Trm}, (∀ n ∈ t.nums, f n = g n) → t.ren f = t.ren g
  | .num _, _ => rfl
  | .wd _, _ => rfl
  | .nil, _ => rfl
  | .unk n, h => by simp only [Trm.ren]; rw [h n (by simp [Trm.nums])]
  | .pair a b, h => by
    simp only [Trm.ren]
    rw [Trm.ren_congr (t := a) fun n hn => h n (by simp only [Trm.nums, List.mem_append]; exact .inl hn), Trm.ren_congr (t := b) fun n hn => h n (by simp only [Trm.nums, List.mem_append]; exact .inr hn)]
theorem Trm.ren_ok {A U U' : Int → Prop} {f : Int → Int} : ∀ {t : Trm}, t.ok A U → (∀ n ∈ t.nums, U' (f n)) → (t.ren f).ok A U'
  | .num _, h, _ => h
  | .wd _, h, _ => h
  | .nil, h, _ => h
  | .unk n, _, hf => hf n (by simp [Trm.nums])
  | .pair a b, h, hf => ⟨Trm.ren_ok h.1 fun n hn => hf n (by simp only [Trm.nums, List.mem_append]; exact .inl hn), Trm.ren_ok h.2 fun n hn => hf n (by simp only [Trm.nums, List.mem_append]; exact .inr hn)⟩
def Inj (f : Int → Int) (l : List Int) : Prop := ∀ a ∈ l, ∀ b ∈ l, f a = f b → a = b
theorem foldl_ins_map {f : Int → Int} : ∀ (l acc : List Int), Inj f (acc ++ l) → (l.map f).foldl ins (acc.map f) = (l.foldl ins acc).map f
  | [], _, _ => rfl
  | n :: l, acc, h => by
    rw [List.map_cons, List.foldl_cons, List.foldl_cons]
    have e : ins (acc.map f) (f n) = (ins acc n).map f := by
      unfold ins
      by_cases hn : n ∈ acc
      · rw [if_pos hn, if_pos (List.mem_map_of_mem hn)]
      · rw [if_neg hn, if_neg fun z => ?_, List.map_append]
        · rfl
        · obtain ⟨x, hx, e⟩ := List.mem_map.mp z
          have := h x (List.mem_append_left _ hx) n (List.mem_append_right _ List.mem_cons_self) e
          exact hn (this ▸ hx)
    rw [e]
    have sub : ∀ a, a ∈ ins acc n ++ l → a ∈ acc ++ n :: l := fun a z => by
      rcases List.mem_append.mp z with z | z
      · unfold ins at z
        split at z
        · exact List.mem_append_left _ z
        · rcases List.mem_append.mp z with z | z
          · exact List.mem_append_left _ z
          · exact List.mem_append_right _ (List.mem_cons.mpr (.inl (List.mem_singleton.mp z)))
      · exact List.mem_append_right _ (List.mem_cons_of_mem _ z)
    exact foldl_ins_map l (ins acc n) fun a ha b hb => h a (sub a ha) b (sub b hb)
theorem once_map {f : Int → Int} {l : List Int} (h : Inj f l) : once (l.map f) = (once l).map f := foldl_ins_map l [] h
theorem once_nodup (l : List Int) : (once l).Nodup := by
  induction l using snocInd with
  | h0 => exact List.nodup_nil
  | h1 l y ih =>
    unfold once at ih ⊢
    rw [foldl_snoc]
    generalize l.foldl ins [] = F at ih ⊢
    unfold ins
    split
    · exact ih
    · rename_i h
      refine List.nodup_append.mpr ⟨ih, by simp, fun a ha b hb e => ?_⟩
      have hb : b = y := by simpa using hb
      exact h (hb ▸ e ▸ ha)
theorem once_nodup_self {l : List Int} (h : l.Nodup) : once l = l := by
  induction l using snocInd with
  | h0 => rfl
  | h1 l y ih =>
    have h2 := List.nodup_append.mp h
    have e := ih h2.1
    unfold once at e ⊢
    rw [foldl_snoc, e]
    unfold ins
    rw [if_neg fun z => h2.2.2 y z y (by simp) rfl]
def numsL (ts : List Trm) : List Int := ts.flatMap Trm.unks
def unksL (ts : List Trm) : List Int := once (numsL ts)
theorem unksL_mem {ts : List Trm} {n : Int} : n ∈ unksL ts ↔ ∃ t ∈ ts, n ∈ t.nums := by
  unfold unksL numsL
  rw [once_mem, List.mem_flatMap]
  constructor
  · rintro ⟨t, ht, h⟩
    exact ⟨t, ht, (once_mem n _).mp h⟩
  · rintro ⟨t, ht, h⟩
    exact ⟨t, ht, (once_mem n _).mpr h⟩
def idx (l : List Int) (n : Int) : Int := (l.idxOf n : Nat)
def renL (ts : List Trm) : List Trm := ts.map (Trm.ren (idx (unksL ts)))
theorem idx_inj (l : List Int) : Inj (idx l) l := by
  intro a ha b hb e
  unfold idx at e
  have e : l.idxOf a = l.idxOf b := by omega
  have h1 := List.idxOf_lt_length_of_mem ha
  have h2 := List.getElem_idxOf h1
  have h3 := List.getElem_idxOf (List.idxOf_lt_length_of_mem hb)
  simp only [e] at h2
  exact h2.symm.trans h3
theorem idx_map {f : Int → Int} : ∀ {l : List Int} {n : Int}, Inj f l → n ∈ l → (l.map f).idxOf (f n) = l.idxOf n
  | x :: l, n, h, hn => by
    rw [List.map_cons, List.idxOf_cons, List.idxOf_cons]
    by_cases e : x = n
    · subst e
      simp
    · have ne : f x ≠ f n := fun z => e (h x List.mem_cons_self n hn z)
      have hl : n ∈ l := (List.mem_cons.mp hn).resolve_left fun z => e z.symm
      have ih := idx_map (l := l) (n := n) (fun a ha b hb => h a (List.mem_cons_of_mem _ ha) b (List.mem_cons_of_mem _ hb)) hl
      simp only [beq_eq_false_iff_ne.mpr e, beq_eq_false_iff_ne.mpr ne, cond_false, ih]
theorem numsL_ren {f : Int → Int} {ts : List Trm} (h : Inj f (unksL ts)) : numsL (ts.map (Trm.ren f)) = (numsL ts).map f := by
  unfold numsL
  rw [List.flatMap_map, List.map_flatMap]
  have e : ∀ t ∈ ts, (Trm.ren f t).unks = (t.unks).map f := fun t ht => by
    unfold Trm.unks
    rw [Trm.ren_nums]
    refine once_map fun a ha b hb e => h a ?_ b ?_ e
    · exact unksL_mem.mpr ⟨t, ht, ha⟩
    · exact unksL_mem.mpr ⟨t, ht, hb⟩
  rw [List.flatMap_def, List.flatMap_def, List.map_congr_left e]
theorem unksL_ren {f : Int → Int} {ts : List Trm} (h : Inj f (unksL ts)) : unksL (ts.map (Trm.ren f)) = (unksL ts).map f := by
  unfold unksL
  rw [numsL_ren h]
  refine once_map fun a ha b hb e => h a ?_ b ?_ e
  · exact (once_mem a _).mpr ha
  · exact (once_mem b _).mpr hb
theorem renL_ren {f : Int → Int} {ts : List Trm} (h : Inj f (unksL ts)) : renL (ts.map (Trm.ren f)) = renL ts := by
  unfold renL
  rw [unksL_ren h, List.map_map]
  refine List.map_congr_left fun t ht => ?_
  show (t.ren f).ren _ = _
  rw [Trm.ren_ren]
  refine Trm.ren_congr fun n hn => ?_
  unfold idx
  rw [idx_map h (unksL_mem.mpr ⟨t, ht, hn⟩)]
theorem renL_renL (ts : List Trm) : renL (renL ts) = renL ts := renL_ren (idx_inj _)
theorem numsL_len {p : Nat} : ∀ {ts : List Trm}, (∀ t ∈ ts, t.pairs ≤ p) → (numsL ts).length ≤ ts.length * (p + 1)
  | [], _ => Nat.zero_le _
  | t :: ts, h => by
    have h1 := h t List.mem_cons_self
    have h2 := Trm.nums_len t
    have h3 : t.unks.length ≤ t.nums.length := once_len _
    have h4 := numsL_len (ts := ts) fun y hy => h y (List.mem_cons_of_mem _ hy)
    show (t.unks ++ numsL ts).length ≤ _
    rw [List.length_append, List.length_cons, Nat.succ_mul]
    omega
theorem idx_lt {l : List Int} {n : Int} (h : n ∈ l) : 0 ≤ idx l n ∧ idx l n < l.length := by
  have := List.idxOf_lt_length_of_mem h
  unfold idx
  omega
def numK : Nat → List Int → List (Key × AV)
  | _, [] => []
  | k, n :: r => (.inl n, .int (k : Nat)) :: numK (k + 1) r
theorem numK_snoc : ∀ (k : Nat) (l : List Int) (n : Int), numK k (l ++ [n]) = numK k l ++ [(.inl n, .int ((k + l.length : Nat)))]
  | k, [], n => rfl
  | k, x :: l, n => by
    simp only [List.cons_append, numK, numK_snoc (k + 1) l n, List.length_cons]
    rw [show k + 1 + l.length = k + (l.length + 1) by omega]
theorem numK_len : ∀ (k : Nat) (l : List Int), (numK k l).length = l.length
  | _, [] => rfl
  | k, _ :: l => congrArg (· + 1) (numK_len (k + 1) l)
theorem numK_any : ∀ (k : Nat) (l : List Int) (n : Int), ((numK k l).any fun kv => decide (kv.1 = Sum.inl n)) = decide (n ∈ l)
  | _, [], n => by simp [numK]
  | k, x :: l, n => by
    simp only [numK, List.any_cons, numK_any (k + 1) l n, Sum.inl.injEq, List.mem_cons]
    by_cases h : x = n
    · simp [h]
    · have h2 : ¬ n = x := fun z => h z.symm
      simp [h, h2]
theorem numK_get : ∀ (k : Nat) (l : List Int) (n : Int), n ∈ l → getK (numK k l) (.inl n) = some (.int (k + idx l n))
  | k, x :: l, n, h => by
    unfold getK idx
    by_cases e : x = n
    · subst e
      simp [numK]
    · have hl : n ∈ l := (List.mem_cons.mp h).resolve_left fun z => e z.symm
      have ih := numK_get (k + 1) l n hl
      unfold getK idx at ih
      rw [numK, List.find?_cons_of_neg (by simp [e]), ih, List.idxOf_cons]
      simp only [beq_eq_false_iff_ne.mpr e, cond_false]
      congr 2
      omega
theorem numK_none : ∀ (k : Nat) (l : List Int) (n : Int), n ∉ l → getK (numK k l) (.inl n) = none
  | _, [], n, _ => rfl
  | k, x :: l, n, h => by
    have e : x ≠ n := fun z => h (by simp [z])
    have ih := numK_none (k + 1) l n fun z => h (List.mem_cons_of_mem _ z)
    unfold getK at ih ⊢
    rw [numK, List.find?_cons_of_neg (by simp [e]), ih]
theorem numK_put {k : Nat} {l : List Int} {n : Int} (h : n ∉ l) : putA (numK k l) (.inl n) (.int ((k + l.length : Nat))) = numK k (l ++ [n]) := by
  unfold putA
  rw [numK_any, if_neg (by simpa using h), numK_snoc]
def enF : AV → Option (Key × AV)
  | .raw [.int i, .int n] => some (.inl n, .int i)
  | _ => none
theorem fold_enum : ∀ (l pre : List Int), (pre ++ l).Nodup → (enumA pre.length (l.map AV.int)).foldl (putFA enF) (numK 0 pre) = numK 0 (pre ++ l)
  | [], pre, _ => by simp [enumA]
  | n :: l, pre, h => by
    have hn : n ∉ pre := fun z => (List.nodup_append.mp h).2.2 n z n List.mem_cons_self rfl
    have e : putFA enF (numK 0 pre) (.raw [.int (pre.length : Nat), .int n]) = numK 0 (pre ++ [n]) := by
      show putA (numK 0 pre) (.inl n) (.int (pre.length : Nat)) = _
      have := numK_put (k := 0) hn
      rwa [Nat.zero_add] at this
    rw [List.map_cons, enumA, List.foldl_cons, e]
    have ih := fold_enum l (pre ++ [n]) (by rw [List.append_assoc]; exact h)
    rw [List.length_append, List.length_singleton, List.append_assoc] at ih
    exact ih
def setD (l : List Int) : List (Key × AV) := l.map fun i => (.inl i, .bl true)
def intF : AV → Option (Key × AV)
  | .int n => some (.inl n, .bl true)
  | _ => none
theorem setD_put (l : List Int) (n : Int) : putA (setD l) (.inl n) (.bl true) = setD (ins l n) := by
  unfold putA ins setD
  have e : ((l.map fun i => ((Sum.inl i : Key), AV.bl true)).any fun kv => decide (kv.1 = Sum.inl n)) = decide (n ∈ l) := by
    rw [List.any_map, Bool.eq_iff_iff, List.any_eq_true, decide_eq_true_iff]
    constructor
    · rintro ⟨x, hx, h⟩
      have : x = n := by simpa using h
      exact this ▸ hx
    · exact fun h => ⟨n, h, by simp⟩
  rw [e]
  by_cases h : n ∈ l
  · rw [if_pos (decide_eq_true h), if_pos h, List.map_map]
    refine List.map_congr_left fun i hi => ?_
    show (if (Sum.inl i : Key) = Sum.inl n then ((Sum.inl i : Key), AV.bl true) else ((Sum.inl i : Key), AV.bl true)) = _
    split <;> rfl
  · rw [if_neg (by simpa using h), if_neg h, List.map_append]
    rfl
theorem fold_setD : ∀ (ns l : List Int), (ns.map AV.int).foldl (putFA intF) (setD l) = setD (ns.foldl ins l)
  | [], _ => rfl
  | n :: ns, l => by
    rw [List.map_cons, List.foldl_cons, List.foldl_cons]
    show List.foldl (putFA intF) (putA (setD l) (.inl n) (.bl true)) _ = _
    rw [setD_put]
    exact fold_setD ns _
theorem setD_keys (l : List Int) : (setD l).map (fun kv => kA kv.1) = l.map AV.int := by
  unfold setD
  rw [List.map_map]
  rfl
end Ab

namespace Ab
open PySem PySem.Spec PyProof.Rows L2
def Trm.subst (s : Int → Trm) : Trm → Trm
  | .unk n => s n
  | .pair a b => .pair (a.subst s) (b.subst s)
  | .num i => .num i
  | .wd w => .wd w
  | .nil => .nil
theorem Trm.subst_congr {s u : Int → Trm} : ∀ {t : Trm}, (∀ k ∈ t.nums, s k = u k) → t.subst s = t.subst u
  | .num _, _ => rfl
  | .wd _, _ => rfl
  | .nil, _ => rfl
  | .unk n, h => h n (by simp [Trm.nums])
  | .pair a b, h => by
    simp only [Trm.subst]
    rw [Trm.subst_congr (t := a) fun k hk => h k (by simp [Trm.nums, hk]), Trm.subst_congr (t := b) fun k hk => h k (by simp [Trm.nums, hk])]
theorem Trm.subst_id : ∀ t : Trm, t.subst Trm.unk = t
  | .num _ => rfl
  | .wd _ => rfl
  | .nil => rfl
  | .unk n => rfl
  | .pair a b => by simp only [Trm.subst, Trm.subst_id a, Trm.subst_id b]
theorem Trm.subst_same {s : Int → Trm} {t : Trm} (h : ∀ k ∈ t.nums, s k = .unk k) : t.subst s = t := (Trm.subst_congr h).trans t.subst_id
theorem Trm.subst_subst (s u : Int → Trm) : ∀ t : Trm, (t.subst s).subst u = t.subst fun n => (s n).subst u
  | .num _ => rfl
  | .wd _ => rfl
  | .nil => rfl
  | .unk n => rfl
  | .pair a b => by simp only [Trm.subst, Trm.subst_subst s u a, Trm.subst_subst s u b]
theorem Trm.subst_nums {s : Int → Trm} : ∀ {t : Trm} {k : Int}, k ∈ (t.subst s).nums ↔ ∃ n ∈ t.nums, k ∈ (s n).nums
  | .num _, k => by simp [Trm.subst, Trm.nums]
  | .wd _, k => by simp [Trm.subst, Trm.nums]
  | .nil, k => by simp [Trm.subst, Trm.nums]
  | .unk n, k => by simp [Trm.subst, Trm.nums]
  | .pair a b, k => by
    simp only [Trm.subst, Trm.nums, List.mem_append, Trm.subst_nums (t := a), Trm.subst_nums (t := b)]
    constructor
    · rintro (⟨n, h, z⟩ | ⟨n, h, z⟩)
      · exact ⟨n, .inl h, z⟩
      · exact ⟨n, .inr h, z⟩
    · rintro ⟨n, h | h, z⟩
      · exact .inl ⟨n, h, z⟩
      · exact .inr ⟨n, h, z⟩
theorem Trm.subst_size {s : Int → Trm} : ∀ {t : Trm} {n : Int}, n ∈ t.nums → (s n).size ≤ (t.subst s).size
  | .num _, n, h => by simp [Trm.nums] at h
  | .wd _, n, h => by simp [Trm.nums] at h
  | .nil, n, h => by simp [Trm.nums] at h
  | .unk k, n, h => by
    simp only [Trm.nums, List.mem_singleton] at h
    subst h
    exact Nat.le_refl _
  | .pair a b, n, h => by
    simp only [Trm.nums, List.mem_append] at h
    simp only [Trm.subst, Trm.size]
    rcases h with h | h
    · have := Trm.subst_size (s := s) h; omega
    · have := Trm.subst_size (s := s) h; omega
def Trm.isPr : Trm → Bool
  | .pair _ _ => true
  | _ => false
def Trm.isUk : Trm → Bool
  | .unk _ => true
  | _ => false
theorem Trm.occ {s : Int → Trm} {t : Trm} {n : Int} (hp : t.isPr = true) (h : n ∈ t.nums) : s n ≠ t.subst s := by
  intro e
  cases t with
  | pair a b =>
    have : (s n).size = ((Trm.pair a b).subst s).size := by rw [e]
    simp only [Trm.nums, List.mem_append] at h
    simp only [Trm.subst, Trm.size] at this
    rcases h with h | h
    · have := Trm.subst_size (s := s) h; omega
    · have := Trm.subst_size (s := s) h; omega
  | _ => simp [Trm.isPr] at hp
def Sol (s : Int → Trm) (E : List (Trm × Trm)) : Prop := ∀ e ∈ E, e.1.subst s = e.2.subst s
theorem sol_nil {s : Int → Trm} : Sol s [] := fun _ h => absurd h List.not_mem_nil
theorem sol_cons {s : Int → Trm} {a b : Trm} {E : List (Trm × Trm)} : Sol s ((a, b) :: E) ↔ a.subst s = b.subst s ∧ Sol s E := by
  constructor
  · exact fun h => ⟨h _ List.mem_cons_self, fun e he => h e (List.mem_cons_of_mem _ he)⟩
  · rintro ⟨h1, h2⟩ e he
    rcases List.mem_cons.mp he with rfl | he
    · exact h1
    · exact h2 e he
theorem sol_append {s : Int → Trm} {E F : List (Trm × Trm)} : Sol s (E ++ F) ↔ Sol s E ∧ Sol s F :=
  ⟨fun h => ⟨fun e he => h e (List.mem_append_left _ he), fun e he => h e (List.mem_append_right _ he)⟩, fun h e he => (List.mem_append.mp he).elim (h.1 e) (h.2 e)⟩
abbrev Bnd := Int → Option Trm
def SatB (s : Int → Trm) (B : Bnd) : Prop := ∀ n t, B n = some t → s n = t.subst s
def sig (F : Bnd) (n : Int) : Trm := (F n).getD (.unk n)
structure Solved (F : Bnd) : Prop where
  free : ∀ n t, F n = some t → ∀ k ∈ t.nums, F k = none
  low : ∀ n k, F n = some (.unk k) → k < n
theorem Solved.sat {F : Bnd} (h : Solved F) : SatB (sig F) F := fun n t e => by
  have e1 : sig F n = t := by unfold sig; rw [e]; rfl
  rw [e1]
  refine (Trm.subst_same fun k hk => ?_).symm
  unfold sig
  rw [h.free n t e k hk]
  rfl
def Told (E : List (Trm × Trm)) : Option Bnd → Prop
  | none => ∀ s, ¬ Sol s E
  | some F => Solved F ∧ ∀ s, Sol s E ↔ SatB s F
theorem sat_comp {F : Bnd} {s : Int → Trm} (h : SatB s F) (x : Int) : (sig F x).subst s = s x := by
  unfold sig
  cases e : F x with
  | none => rfl
  | some t => exact (h x t e).symm
theorem solved_dom {F G : Bnd} (hF : Solved F) (hG : Solved G) (h1 : SatB (sig F) G) (h2 : SatB (sig G) F) {x : Int} (e : G x = none) : F x = none := by
  cases ef : F x with
  | none => rfl
  | some t =>
    exfalso
    have q := sat_comp h2 x
    have e1 : sig F x = t := by unfold sig; rw [ef]; rfl
    have e2 : sig G x = .unk x := by unfold sig; rw [e]; rfl
    rw [e1, e2] at q
    cases t with
    | unk y =>
      have l1 := hF.low x y ef
      have q : sig G y = .unk x := q
      cases eg : G y with
      | none =>
        unfold sig at q
        rw [eg] at q
        have : y = x := by simpa using q
        omega
      | some u =>
        unfold sig at q
        rw [eg] at q
        have q : u = .unk x := q
        subst q
        have := hG.low y x eg
        omega
    | _ => simp [Trm.subst] at q
theorem Solved.uniq {F G : Bnd} (hF : Solved F) (hG : Solved G) (h : ∀ s, SatB s F ↔ SatB s G) : F = G := by
  have h1 : SatB (sig F) G := (h _).mp hF.sat
  have h2 : SatB (sig G) F := (h _).mpr hG.sat
  funext x
  cases ef : F x with
  | none => exact (solved_dom hG hF h2 h1 ef).symm
  | some t =>
    cases eg : G x with
    | none => rw [solved_dom hF hG h1 h2 eg] at ef; cases ef
    | some u =>
      have q := sat_comp h2 x
      have e1 : sig F x = t := by unfold sig; rw [ef]; rfl
      have e2 : sig G x = u := by unfold sig; rw [eg]; rfl
      rw [e1, e2] at q
      have : t.subst (sig G) = t := Trm.subst_same fun k hk => by
        unfold sig
        rw [solved_dom hG hF h2 h1 (hF.free x t ef k hk)]
        rfl
      rw [this] at q
      rw [q]
theorem Told.uniq {E : List (Trm × Trm)} : ∀ {o o' : Option Bnd}, Told E o → Told E o' → o = o'
  | none, none, _, _ => rfl
  | none, some G, h, h' => absurd ((h'.2 _).mpr h'.1.sat) (h _)
  | some F, none, h, h' => absurd ((h.2 _).mpr h.1.sat) (h' _)
  | some F, some G, h, h' => by rw [h.1.uniq h'.1 fun s => (h.2 s).symm.trans (h'.2 s)]
theorem Told.congr {E E' : List (Trm × Trm)} (h : ∀ s, Sol s E ↔ Sol s E') : ∀ {o : Option Bnd}, Told E o → Told E' o
  | none, t => fun s z => t s ((h s).mpr z)
  | some F, t => ⟨t.1, fun s => (h s).symm.trans (t.2 s)⟩
inductive Res (B : Bnd) : Trm → Trm → Prop
  | num (i : Int) : Res B (.num i) (.num i)
  | wd (w : Str) : Res B (.wd w) (.wd w)
  | nil : Res B .nil .nil
  | free {n : Int} : B n = none → Res B (.unk n) (.unk n)
  | bound {n : Int} {t r : Trm} : B n = some t → Res B t r → Res B (.unk n) r
  | pair {a b c d : Trm} : Res B a c → Res B b d → Res B (.pair a b) (.pair c d)
theorem Res.det {B : Bnd} {t r u : Trm} (h : Res B t r) (h2 : Res B t u) : r = u := by
  induction h generalizing u with
  | num i => cases h2; rfl
  | wd w => cases h2; rfl
  | nil => cases h2; rfl
  | free e =>
    cases h2 with
    | free _ => rfl
    | bound e2 _ => rw [e] at e2; cases e2
  | bound e _ ih =>
    cases h2 with
    | free e2 => rw [e] at e2; cases e2
    | bound e2 h => rw [e] at e2; cases e2; exact ih h
  | pair _ _ ih1 ih2 =>
    cases h2 with
    | pair h3 h4 => rw [ih1 h3, ih2 h4]
theorem Res.done {B : Bnd} {t r : Trm} (h : Res B t r) : ∀ k ∈ r.nums, B k = none := by
  induction h with
  | num i => intro k hk; simp [Trm.nums] at hk
  | wd w => intro k hk; simp [Trm.nums] at hk
  | nil => intro k hk; simp [Trm.nums] at hk
  | free e =>
    intro k hk
    simp only [Trm.nums, List.mem_singleton] at hk
    subst hk
    exact e
  | bound _ _ ih => exact ih
  | pair _ _ ih1 ih2 =>
    intro k hk
    simp only [Trm.nums, List.mem_append] at hk
    exact hk.elim (ih1 k) (ih2 k)
theorem Res.self {B : Bnd} : ∀ {t : Trm}, (∀ k ∈ t.nums, B k = none) → Res B t t
  | .num _, _ => .num _
  | .wd _, _ => .wd _
  | .nil, _ => .nil
  | .unk n, h => .free (h n (by simp [Trm.nums]))
  | .pair a b, h => .pair (Res.self fun k hk => h k (by simp [Trm.nums, hk])) (Res.self fun k hk => h k (by simp [Trm.nums, hk]))
theorem Res.sat {B : Bnd} {s : Int → Trm} {t r : Trm} (h : Res B t r) (hs : SatB s B) : t.subst s = r.subst s := by
  induction h with
  | num i => rfl
  | wd w => rfl
  | nil => rfl
  | free e => rfl
  | bound e _ ih => exact (hs _ _ e).trans ih
  | pair _ _ ih1 ih2 => simp only [Trm.subst, ih1, ih2]
def updB (B : Bnd) (n : Int) (t : Trm) : Bnd := fun k => if k = n then some t else B k
theorem updB_same {B : Bnd} {n : Int} {t : Trm} : updB B n t n = some t := if_pos rfl
theorem updB_ne {B : Bnd} {n k : Int} {t : Trm} (h : k ≠ n) : updB B n t k = B k := if_neg h
def one1 (n : Int) (t : Trm) : Int → Trm := fun k => if k = n then t else .unk k
theorem Res.keep {B : Bnd} {n : Int} {s : Trm} (hn : B n = none) {t r : Trm} (h : Res B t r) (hr : n ∉ r.nums) : Res (updB B n s) t r := by
  induction h with
  | num i => exact .num i
  | wd w => exact .wd w
  | nil => exact .nil
  | free e =>
    rename_i k
    have : k ≠ n := fun z => hr (by simp [Trm.nums, z])
    exact .free (by rw [updB_ne this]; exact e)
  | bound e hx ih =>
    rename_i k u r
    have : k ≠ n := fun z => by rw [z, hn] at e; cases e
    exact .bound (by rw [updB_ne this]; exact e) (ih hr)
  | pair _ _ ih1 ih2 => exact .pair (ih1 fun z => hr (by simp [Trm.nums, z])) (ih2 fun z => hr (by simp [Trm.nums, z]))
theorem Res.upd {B : Bnd} {n : Int} {s s' t r : Trm} (h : Res B t r) (hn : B n = none) (hs : Res B s s') (ho : n ∉ s'.nums) : Res (updB B n s) t (r.subst (one1 n s')) := by
  induction h with
  | num i => exact .num i
  | wd w => exact .wd w
  | nil => exact .nil
  | free e =>
    rename_i k
    by_cases hk : k = n
    · subst hk
      simp only [Trm.subst, one1, if_pos]
      exact .bound updB_same (hs.keep hn ho)
    · simp only [Trm.subst, one1, if_neg hk]
      exact .free (by rw [updB_ne hk]; exact e)
  | bound e hx ih =>
    rename_i k u r
    have : k ≠ n := fun z => by rw [z, hn] at e; cases e
    exact .bound (by rw [updB_ne this]; exact e) ih
  | pair _ _ ih1 ih2 => exact .pair ih1 ih2
structure Good (B : Bnd) : Prop where
  res : ∀ t, ∃ r, Res B t r
  low : ∀ n k, B n ≠ none → Res B (.unk n) (.unk k) → k < n
theorem Good.empty : Good fun _ => none := ⟨fun t => ⟨t, .self fun _ _ => rfl⟩, fun n k h => absurd rfl h⟩
theorem Good.upd {B : Bnd} {n : Int} {s s' : Trm} (g : Good B) (hn : B n = none) (hs : Res B s s') (ho : n ∉ s'.nums) (hl : ∀ k, s' = .unk k → k < n) : Good (updB B n s) := by
  refine ⟨fun t => let ⟨r, h⟩ := g.res t; ⟨_, h.upd hn hs ho⟩, fun m k hm h => ?_⟩
  obtain ⟨r, hr⟩ := g.res (.unk m)
  have e := (hr.upd hn hs ho).det h
  by_cases hmn : m = n
  · subst hmn
    have : r = .unk m := hr.det (.free hn)
    subst this
    simp only [Trm.subst, one1, if_pos] at e
    exact hl k e
  · rw [updB_ne hmn] at hm
    cases r with
    | unk j =>
      have lj := g.low m j hm hr
      by_cases hj : j = n
      · subst hj
        simp only [Trm.subst, one1, if_pos] at e
        have := hl k e
        omega
      · simp only [Trm.subst, one1, if_neg hj, Trm.unk.injEq] at e
        omega
    | _ => simp [Trm.subst] at e
theorem Good.filling {B : Bnd} (g : Good B) : ∃ F : Bnd, Solved F ∧ (∀ s, SatB s B ↔ SatB s F) ∧ (∀ n, F n = none ↔ B n = none) ∧ ∀ n t, F n = some t → Res B (.unk n) t := by
  have ex : ∀ n, ∃ o : Option Trm, (B n = none → o = none) ∧ (B n ≠ none → ∃ r, o = some r ∧ Res B (.unk n) r) := fun n => by
    by_cases h : B n = none
    · exact ⟨none, fun _ => rfl, fun z => absurd h z⟩
    · obtain ⟨r, hr⟩ := g.res (.unk n)
      exact ⟨some r, fun z => absurd z h, fun _ => ⟨r, rfl, hr⟩⟩
  refine ⟨fun n => (ex n).choose, ?_⟩
  have sp := fun n => (ex n).choose_spec
  have no : ∀ n, (ex n).choose = none ↔ B n = none := fun n => by
    refine ⟨fun z => ?_, (sp n).1⟩
    by_cases h : B n = none
    · exact h
    · obtain ⟨r, e, _⟩ := (sp n).2 h
      rw [e] at z
      cases z
  have so : ∀ n t, (ex n).choose = some t → B n ≠ none ∧ Res B (.unk n) t := fun n t e => by
    have h : B n ≠ none := fun z => by rw [(sp n).1 z] at e; cases e
    obtain ⟨r, e2, hr⟩ := (sp n).2 h
    rw [e] at e2
    cases e2
    exact ⟨h, hr⟩
  refine ⟨⟨fun n t e k hk => (no k).mpr ((so n t e).2.done k hk), fun n k e => g.low n k (so n _ e).1 (so n _ e).2⟩, fun s => ⟨fun h n t e => ?_, fun h n t e => ?_⟩, no, fun n t e => (so n t e).2⟩
  · exact (so n t e).2.sat h
  · -- from the filling back: each term is what it comes to
    have back : ∀ {u r : Trm}, Res B u r → u.subst s = r.subst s := by
      intro u r hu
      have main : ∀ {u r : Trm}, Res B u r → ∀ {v : Trm}, True → u.subst s = r.subst s := by
        intro u r hu
        induction hu with
        | num i => intro _ _; rfl
        | wd w => intro _ _; rfl
        | nil => intro _ _; rfl
        | free e => intro _ _; rfl
        | bound e hr ih =>
          rename_i k u r
          intro _ _
          obtain ⟨r2, e2, hr2⟩ := (sp k).2 (by rw [e]; exact fun z => by cases z)
          have := (Res.bound e hr).det hr2
          subst this
          exact h k _ e2
        | pair _ _ ih1 ih2 => intro v _; simp only [Trm.subst, ih1 (v := v) trivial, ih2 (v := v) trivial]
      exact main hu (v := .nil) trivial
    obtain ⟨r, hr⟩ := g.res t
    have h1 := back hr
    have h2 := back (Res.bound e hr)
    exact h2.trans h1.symm
end Ab

namespace Ab
open PySem PySem.Spec PyProof.Rows L2
def look : List (Int × Trm) → Bnd
  | [], _ => none
  | (k, t) :: r, n => if k = n then some t else look r n
theorem look_snoc : ∀ (bs : List (Int × Trm)) (x : Int) (s : Trm), look bs x = none → look (bs ++ [(x, s)]) = updB (look bs) x s
  | [], x, s, _ => by
    funext k
    simp only [List.nil_append, look, updB]
    by_cases h : x = k
    · rw [if_pos h, if_pos h.symm]
    · rw [if_neg h, if_neg fun z => h z.symm]
  | (k, t) :: r, x, s, h => by
    have hk : k ≠ x := fun z => by simp [look, z] at h
    have hr : look r x = none := by simpa [look, hk] using h
    funext n
    simp only [List.cons_append, look, look_snoc r x s hr, updB]
    by_cases hn : k = n
    · subst hn
      rw [if_pos rfl, if_neg hk]
      simp
    · rw [if_neg hn]
      by_cases hx : n = x
      · rw [if_pos hx, if_pos hx]
      · rw [if_neg hx, if_neg hx, if_neg hn]
theorem look_mem : ∀ {bs : List (Int × Trm)} {n : Int} {t : Trm}, look bs n = some t → (n, t) ∈ bs
  | (k, u) :: r, n, t, h => by
    simp only [look] at h
    by_cases hk : k = n
    · rw [if_pos hk] at h
      cases h
      rw [hk]
      exact List.mem_cons_self
    · rw [if_neg hk] at h
      exact List.mem_cons_of_mem _ (look_mem h)
theorem look_none : ∀ {bs : List (Int × Trm)} {n : Int}, look bs n = none ↔ n ∉ bs.map (·.1)
  | [], n => by simp [look]
  | (k, u) :: r, n => by
    simp only [look, List.map_cons, List.mem_cons, not_or]
    by_cases hk : k = n
    · simp [hk]
    · rw [if_neg hk, look_none (bs := r)]
      exact ⟨fun h => ⟨fun z => hk z.symm, h⟩, fun h => h.2⟩
theorem look_of_mem : ∀ {bs : List (Int × Trm)} {n : Int} {t : Trm}, (bs.map (·.1)).Nodup → (n, t) ∈ bs → look bs n = some t
  | (k, u) :: r, n, t, h, hm => by
    simp only [List.map_cons, List.nodup_cons] at h
    simp only [look]
    rcases List.mem_cons.mp hm with e | hm
    · cases e
      rw [if_pos rfl]
    · have : k ≠ n := fun z => h.1 (z ▸ List.mem_map_of_mem (f := (·.1)) hm)
      rw [if_neg this]
      exact look_of_mem h.2 hm
inductive Root (B : Bnd) : Trm → Trm → Nat → Prop
  | stop {t : Trm} : (∀ n, t = .unk n → B n = none) → Root B t t 0
  | go {n : Int} {t r : Trm} {k : Nat} : B n = some t → Root B t r k → Root B (.unk n) r (k + 1)
theorem Res.root {B : Bnd} {t r : Trm} (h : Res B t r) : ∃ u k, Root B t u k ∧ Res B u r ∧ (∀ n, u = .unk n → B n = none) := by
  induction h with
  | num i => exact ⟨_, _, .stop (fun n e => by cases e), .num i, fun n e => by cases e⟩
  | wd w => exact ⟨_, _, .stop (fun n e => by cases e), .wd w, fun n e => by cases e⟩
  | nil => exact ⟨_, _, .stop (fun n e => by cases e), .nil, fun n e => by cases e⟩
  | free e => exact ⟨_, _, .stop (fun n z => by cases z; exact e), .free e, fun n z => by cases z; exact e⟩
  | bound e _ ih =>
    obtain ⟨u, k, h1, h2, h3⟩ := ih
    exact ⟨u, k + 1, .go e h1, h2, h3⟩
  | pair h1 h2 _ _ => exact ⟨_, _, .stop (fun n e => by cases e), .pair h1 h2, fun n e => by cases e⟩
theorem Root.is {B : Bnd} {P : Trm → Prop} {t u : Trm} {k : Nat} (h : Root B t u k) (hB : ∀ n s, B n = some s → P s) (ht : P t) : P u := by
  induction h with
  | stop _ => exact ht
  | go e _ ih => exact ih (hB _ _ e)
theorem Root.sat {B : Bnd} {s : Int → Trm} {t u : Trm} {k : Nat} (h : Root B t u k) (hs : SatB s B) : t.subst s = u.subst s := by
  induction h with
  | stop _ => rfl
  | go e _ ih => exact (hs _ _ e).trans ih
inductive Ori : Trm → Trm → Int → Trm → Prop
  | left {n : Int} {t : Trm} : t.isUk = false → Ori (.unk n) t n t
  | right {n : Int} {t : Trm} : t.isUk = false → Ori t (.unk n) n t
  | gt {n k : Int} : k < n → Ori (.unk n) (.unk k) n (.unk k)
  | lt {n k : Int} : n < k → Ori (.unk n) (.unk k) k (.unk n)
theorem Ori.sol {s : Int → Trm} {a b t : Trm} {n : Int} (h : Ori a b n t) : a.subst s = b.subst s ↔ s n = t.subst s := by
  cases h with
  | left _ => exact Iff.rfl
  | right _ => exact eq_comm
  | gt _ => exact Iff.rfl
  | lt _ => exact eq_comm
structure BsOk (P : Trm → Prop) (V : Nat) (bs : List (Int × Trm)) : Prop where
  ok : ∀ p ∈ bs, P p.2
  len : bs.length ≤ V
  nd : (bs.map (·.1)).Nodup
  good : Good (look bs)
inductive Run (P : Trm → Prop) (L V : Nat) : List (Int × Trm) → List (Trm × Trm) → Option (List (Int × Trm)) → Nat → Prop
  | done {bs : List (Int × Trm)} : BsOk P V bs → Run P L V bs [] (some bs) 0
  | same {bs : List (Int × Trm)} {W : List (Trm × Trm)} {a b r : Trm} {i j n : Nat} {o : Option (List (Int × Trm))} : BsOk P V bs → P a → P b → P r → Root (look bs) a r i → Root (look bs) b r j → W.length + 1 ≤ L → Run P L V bs W o n → Run P L V bs ((a, b) :: W) o (n + 1)
  | pairs {bs : List (Int × Trm)} {W : List (Trm × Trm)} {a b a1 a2 b1 b2 : Trm} {i j n : Nat} {o : Option (List (Int × Trm))} : BsOk P V bs → P a → P b → P (.pair a1 a2) → P (.pair b1 b2) → Root (look bs) a (.pair a1 a2) i → Root (look bs) b (.pair b1 b2) j → Trm.pair a1 a2 ≠ .pair b1 b2 → W.length + 2 ≤ L →
      Run P L V bs ((a1, b1) :: (a2, b2) :: W) o n → Run P L V bs ((a, b) :: W) o (n + 1)
  | clash {bs : List (Int × Trm)} {W : List (Trm × Trm)} {a b c d : Trm} {i j : Nat} : BsOk P V bs → P a → P b → P c → P d → Root (look bs) a c i → Root (look bs) b d j → c ≠ d → c.isUk = false → d.isUk = false → (c.isPr && d.isPr) = false → W.length + 1 ≤ L → Run P L V bs ((a, b) :: W) none 1
  | occurs {bs : List (Int × Trm)} {W : List (Trm × Trm)} {a b c d s s' : Trm} {i j : Nat} {x : Int} : BsOk P V bs → P a → P b → P c → P d → Root (look bs) a c i → Root (look bs) b d j → c ≠ d → Ori c d x s → s.isPr = true → Res (look bs) s s' → x ∈ s'.nums → look bs x = none → W.length + 1 ≤ L → Run P L V bs ((a, b) :: W) none 1
  | bind {bs : List (Int × Trm)} {W : List (Trm × Trm)} {a b c d s s' : Trm} {i j n : Nat} {x : Int} {o : Option (List (Int × Trm))} : BsOk P V bs → P a → P b → P c → P d → Root (look bs) a c i → Root (look bs) b d j → c ≠ d → Ori c d x s → Res (look bs) s s' → x ∉ s'.nums → look bs x = none → W.length + 1 ≤ L →
      Run P L V (bs ++ [(x, s)]) W o n → Run P L V bs ((a, b) :: W) o (n + 1)
abbrev WR (B : Bnd) : List (Trm × Trm) → List (Trm × Trm) → Prop := Paired fun e r => Res B e.1 r.1 ∧ Res B e.2 r.2
def Stk (C : Nat) : List (Trm × Trm) → Prop
  | [] => True
  | (a, b) :: R => R.length + a.deep ≤ C ∧ R.length + b.deep ≤ C ∧ Stk C R
def wsize (R : List (Trm × Trm)) : Nat := (R.map fun e => e.1.size + e.2.size).sum
def varsIn (U : List Int) (R : List (Trm × Trm)) : Prop := ∀ e ∈ R, (∀ k ∈ e.1.nums, k ∈ U) ∧ ∀ k ∈ e.2.nums, k ∈ U
theorem deep_subst {n : Int} {s : Trm} : ∀ t : Trm, (t.subst (one1 n s)).deep ≤ t.deep + s.deep
  | .num _ => by simp only [Trm.subst, Trm.deep]; omega
  | .wd _ => by simp only [Trm.subst, Trm.deep]; omega
  | .nil => by simp only [Trm.subst, Trm.deep]; omega
  | .unk k => by
    simp only [Trm.subst, one1]
    split
    · omega
    · simp only [Trm.deep]; omega
  | .pair a b => by
    have h1 := deep_subst (n := n) (s := s) a
    have h2 := deep_subst (n := n) (s := s) b
    simp only [Trm.subst, Trm.deep]
    omega
theorem stk_subst {C D : Nat} {n : Int} {s : Trm} (hs : s.deep ≤ D) : ∀ {R : List (Trm × Trm)}, Stk C R → Stk (C + D) (R.map fun e => (e.1.subst (one1 n s), e.2.subst (one1 n s)))
  | [], _ => trivial
  | (a, b) :: R, ⟨h1, h2, h3⟩ => by
    have d1 := deep_subst (n := n) (s := s) a
    have d2 := deep_subst (n := n) (s := s) b
    refine ⟨?_, ?_, stk_subst hs h3⟩
    · show (List.map _ R).length + (a.subst (one1 n s)).deep ≤ C + D
      rw [List.length_map]; omega
    · show (List.map _ R).length + (b.subst (one1 n s)).deep ≤ C + D
      rw [List.length_map]; omega
def Post (bs : List (Int × Trm)) (W : List (Trm × Trm)) : Option (List (Int × Trm)) → Prop
  | none => ∀ s, SatB s (look bs) → ¬ Sol s W
  | some cs => ∀ s, (SatB s (look bs) ∧ Sol s W) ↔ SatB s (look cs)
theorem sat_upd {B : Bnd} {n : Int} {t : Trm} {s : Int → Trm} (hn : B n = none) : SatB s (updB B n t) ↔ SatB s B ∧ s n = t.subst s := by
  constructor
  · intro h
    refine ⟨fun k u e => h k u ?_, h n t updB_same⟩
    rw [updB_ne fun z => by rw [z, hn] at e; cases e]
    exact e
  · rintro ⟨h1, h2⟩ k u e
    by_cases hk : k = n
    · subst hk
      rw [updB_same] at e
      cases e
      exact h2
    · rw [updB_ne hk] at e
      exact h1 k u e
theorem BsOk.snoc {P : Trm → Prop} {V : Nat} {bs : List (Int × Trm)} {x : Int} {s s' : Trm} (h : BsOk P V bs) (hs : P s) (hv : bs.length < V) (hx : look bs x = none) (hr : Res (look bs) s s') (ho : x ∉ s'.nums) (hl : ∀ k, s' = .unk k → k < x) : BsOk P V (bs ++ [(x, s)]) := by
  refine ⟨fun p hp => ?_, by rw [List.length_append, List.length_singleton]; omega, ?_, ?_⟩
  · rcases List.mem_append.mp hp with hp | hp
    · exact h.ok p hp
    · rw [List.mem_singleton.mp hp]; exact hs
  · rw [List.map_append, List.nodup_append]
    refine ⟨h.nd, by simp, fun a ha b hb e => ?_⟩
    have hb : b = x := by simpa using hb
    exact look_none.mp hx (hb ▸ e ▸ ha)
  · rw [look_snoc bs x s hx]
    exact h.good.upd hx hr ho hl
theorem filter_lt {x : Int} : ∀ {U : List Int}, x ∈ U → (U.filter fun k => decide (k ≠ x)).length < U.length
  | y :: U, h => by
    by_cases e : y = x
    · rw [List.filter_cons_of_neg (by simp [e])]
      have := List.length_filter_le (fun k => decide (k ≠ x)) U
      rw [List.length_cons]
      omega
    · rw [List.filter_cons_of_pos (by simp [e]), List.length_cons, List.length_cons]
      have := filter_lt ((List.mem_cons.mp h).resolve_left fun z => e z.symm)
      omega
theorem clash_sub {s : Int → Trm} {c d : Trm} (h : c ≠ d) (h1 : c.isUk = false) (h2 : d.isUk = false) (h3 : (c.isPr && d.isPr) = false) : c.subst s ≠ d.subst s := by
  intro e
  cases c <;> cases d <;> first
    | exact Bool.noConfusion h1
    | exact Bool.noConfusion h2
    | exact Bool.noConfusion h3
    | exact h e
    | (simp only [Trm.subst, reduceCtorEq] at e)
theorem run_ex {P : Trm → Prop} (hP : ∀ a b, P (.pair a b) → P a ∧ P b) {L V : Nat} : ∀ (N : Nat) (U : List Int), U.length ≤ N → ∀ (C : Nat) (bs : List (Int × Trm)), C * 2 ^ N ≤ L → BsOk P V bs → bs.length + U.length ≤ V → ∀ (S : Nat) (W R : List (Trm × Trm)), wsize R ≤ S → (∀ e ∈ W, P e.1 ∧ P e.2) → WR (look bs) W R → varsIn U R → Stk C R →
    ∃ o n, Run P L V bs W o n ∧ Post bs W o := by
  intro N
  induction N using Nat.strongRecOn with
  | ind N ihN =>
  intro U hU C bs hC ok hV S
  induction S with
  | zero =>
    intro W R hS hW wr vi st
    cases wr with
    | nil => exact ⟨_, _, .done ok, fun s => ⟨fun h => h.1, fun h => ⟨h, sol_nil⟩⟩⟩
    | @cons e r W R h _ =>
      have := Trm.size_pairs r.1
      simp only [wsize, List.map_cons, List.sum_cons] at hS
      omega
  | succ S ihS =>
    intro W R hS hW wr vi st
    cases wr with
    | nil => exact ⟨_, _, .done ok, fun s => ⟨fun h => h.1, fun h => ⟨h, sol_nil⟩⟩⟩
    | @cons e r W R h wr =>
      obtain ⟨a, b⟩ := e
      obtain ⟨a', b'⟩ := r
      obtain ⟨ha, hb⟩ := h
      have ha : Res (look bs) a a' := ha
      have hb : Res (look bs) b b' := hb
      have pa := (hW (a, b) List.mem_cons_self).1
      have pb := (hW (a, b) List.mem_cons_self).2
      have hW2 : ∀ e ∈ W, P e.1 ∧ P e.2 := fun e he => hW e (List.mem_cons_of_mem _ he)
      have vi2 : varsIn U R := fun e he => vi e (List.mem_cons_of_mem _ he)
      obtain ⟨st1, st2, st3⟩ := st
      have wl : W.length = R.length := Paired.length wr
      have dp1 := Trm.deep_pos a'
      have CL : C ≤ L := Nat.le_trans (Nat.le_mul_of_pos_right _ (Nat.two_pow_pos N)) hC
      have len1 : W.length + 1 ≤ L := by omega
      have sz1 := Trm.size_pairs a'
      have sz2 := Trm.size_pairs b'
      simp only [wsize, List.map_cons, List.sum_cons] at hS
      obtain ⟨c, i, rc, hc, fc⟩ := ha.root
      obtain ⟨d, j, rd, hd, fd⟩ := hb.root
      have okP : ∀ n s, look bs n = some s → P s := fun n s e => ok.ok _ (look_mem e)
      have pc := rc.is okP pa
      have pd := rd.is okP pb
      by_cases same : c = d
      · subst same
        obtain ⟨o, n, run, post⟩ := ihS W R (by unfold wsize; omega) hW2 wr vi2 st3
        refine ⟨o, _, .same ok pa pb pc rc rd len1 run, ?_⟩
        cases o with
        | none => exact fun s hs z => post s hs (sol_cons.mp z).2
        | some cs =>
          intro s
          rw [← post s]
          constructor
          · exact fun ⟨h1, h2⟩ => ⟨h1, (sol_cons.mp h2).2⟩
          · exact fun ⟨h1, h2⟩ => ⟨h1, sol_cons.mpr ⟨(rc.sat h1).trans (rd.sat h1).symm, h2⟩⟩
      have bindCase : ∀ x t, Ori c d x t → look bs x = none → P t → x ∈ U → ∀ t', Res (look bs) t t' → (∀ k, t' = .unk k → k < x) → (∀ k ∈ t'.nums, k ∈ U) → t'.deep ≤ C → (t.isPr = false → x ∉ t'.nums) → ∃ o n, Run P L V bs ((a, b) :: W) o n ∧ Post bs ((a, b) :: W) o := by
        intro x t ori hx pt hxU t' ht hlow htU htC hocc
        by_cases oc : x ∈ t'.nums
        · cases hp : t.isPr with
          | false => exact absurd oc (hocc hp)
          | true =>
            refine ⟨_, _, .occurs ok pa pb pc pd rc rd same ori hp ht oc hx len1, fun s hs z => ?_⟩
            have z1 := (sol_cons.mp z).1
            have z2 := ori.sol.mp ((rc.sat hs).symm.trans (z1.trans (rd.sat hs)))
            rw [ht.sat hs] at z2
            have hp' : t'.isPr = true := by
              cases ht with
              | pair _ _ => rfl
              | _ => simp [Trm.isPr] at hp
            exact Trm.occ hp' oc z2
        · have hlt := filter_lt hxU
          have ok2 := ok.snoc pt (by have := List.length_pos_of_mem hxU; omega) hx ht oc hlow
          have wr2 : WR (look (bs ++ [(x, t)])) W (R.map fun e => (e.1.subst (one1 x t'), e.2.subst (one1 x t'))) := by
            rw [look_snoc bs x t hx]
            have main : ∀ {W R : List (Trm × Trm)}, WR (look bs) W R → WR (updB (look bs) x t) W (R.map fun e => (e.1.subst (one1 x t'), e.2.subst (one1 x t'))) := by
              intro W R h
              induction h with
              | nil => exact .nil
              | cons h _ ih => exact .cons ⟨h.1.upd hx ht oc, h.2.upd hx ht oc⟩ ih
            exact main wr
          have vi3 : varsIn (U.filter fun k => decide (k ≠ x)) (R.map fun e => (e.1.subst (one1 x t'), e.2.subst (one1 x t'))) := by
            have aux : ∀ u : Trm, (∀ k ∈ u.nums, k ∈ U) → ∀ k ∈ (u.subst (one1 x t')).nums, k ∈ U.filter fun k => decide (k ≠ x) := by
              intro u hu k hk
              obtain ⟨n, hn, hk⟩ := Trm.subst_nums.mp hk
              unfold one1 at hk
              by_cases e : n = x
              · rw [if_pos e] at hk
                exact List.mem_filter.mpr ⟨htU k hk, decide_eq_true fun z => oc (z ▸ hk)⟩
              · rw [if_neg e] at hk
                have : k = n := by simpa [Trm.nums] using hk
                subst this
                exact List.mem_filter.mpr ⟨hu k hn, decide_eq_true e⟩
            intro e he
            obtain ⟨e0, he0, rfl⟩ := List.mem_map.mp he
            exact ⟨aux _ (vi2 e0 he0).1, aux _ (vi2 e0 he0).2⟩
          have hN : 0 < N := by have := List.length_pos_of_mem hxU; omega
          obtain ⟨o, n, run, post⟩ := ihN (N - 1) (by omega) (U.filter fun k => decide (k ≠ x)) (by omega) (C + C) (bs ++ [(x, t)]) (by
            have e : 2 ^ N = 2 * 2 ^ (N - 1) := by rw [← Nat.pow_succ']; congr 1; omega
            rw [e] at hC
            have e2 : (C + C) * 2 ^ (N - 1) = C * (2 * 2 ^ (N - 1)) := by rw [← Nat.mul_assoc, Nat.mul_two]
            rw [e2]; exact hC) ok2 (by rw [List.length_append, List.length_singleton]; omega) _ W _ (Nat.le_refl _) hW2 wr2 vi3 (stk_subst htC st3)
          refine ⟨o, _, .bind ok pa pb pc pd rc rd same ori ht oc hx len1 run, ?_⟩
          rw [show Post (bs ++ [(x, t)]) W o = Post (bs ++ [(x, t)]) W o from rfl] at post
          have eq : ∀ s, SatB s (look (bs ++ [(x, t)])) ∧ Sol s W ↔ SatB s (look bs) ∧ Sol s ((a, b) :: W) := fun s => by
            rw [look_snoc bs x t hx, sat_upd hx, sol_cons]
            constructor
            · rintro ⟨⟨h1, h2⟩, h3⟩
              exact ⟨h1, (rc.sat h1).trans ((ori.sol.mpr h2).trans (rd.sat h1).symm), h3⟩
            · rintro ⟨h1, h2, h3⟩
              exact ⟨⟨h1, ori.sol.mp ((rc.sat h1).symm.trans (h2.trans (rd.sat h1)))⟩, h3⟩
          cases o with
          | none => exact fun s hs z => let q := (eq s).mpr ⟨hs, z⟩; post s q.1 q.2
          | some cs => exact fun s => (eq s).symm.trans (post s)
      have resU : ∀ {u : Trm} {n : Int}, Res (look bs) (.unk n) u → look bs n = none → u = .unk n := fun h e => h.det (.free e)
      cases cu : c.isUk with
      | true =>
        cases c with
        | unk x =>
          have ex := resU hc (fc x rfl)
          subst ex
          have hxU : x ∈ U := (vi (.unk x, b') List.mem_cons_self).1 x (by simp [Trm.nums])
          cases du : d.isUk with
          | true =>
            cases d with
            | unk y =>
              have ey := resU hd (fd y rfl)
              subst ey
              have hyU : y ∈ U := (vi (.unk x, .unk y) List.mem_cons_self).2 y (by simp [Trm.nums])
              have xy : x ≠ y := fun e => same (by rw [e])
              have dC : (Trm.unk x).deep ≤ C ∧ (Trm.unk y).deep ≤ C := ⟨by omega, by omega⟩
              by_cases lt : y < x
              · exact bindCase x (.unk y) (.gt lt) (fc x rfl) pd hxU (.unk y) hd (fun k e => by cases e; exact lt) (fun k hk => by simp only [Trm.nums, List.mem_singleton] at hk; subst hk; exact hyU) dC.2 (fun _ z => by simp only [Trm.nums, List.mem_singleton] at z; exact xy z)
              · have lt : x < y := by omega
                exact bindCase y (.unk x) (.lt lt) (fd y rfl) pc hyU (.unk x) hc (fun k e => by cases e; exact lt) (fun k hk => by simp only [Trm.nums, List.mem_singleton] at hk; subst hk; exact hxU) dC.1 (fun _ z => by simp only [Trm.nums, List.mem_singleton] at z; exact xy z.symm)
            | _ => simp [Trm.isUk] at du
          | false =>
            refine bindCase x d (.left du) (fc x rfl) pd hxU b' hd (fun k e => ?_) (vi (.unk x, b') List.mem_cons_self).2 (by omega) (fun hp => ?_)
            · subst e
              cases hd with
              | free _ => simp [Trm.isUk] at du
              | bound _ _ => simp [Trm.isUk] at du
            · cases hd with
              | pair _ _ => simp [Trm.isPr] at hp
              | free _ => simp [Trm.isUk] at du
              | bound _ _ => simp [Trm.isUk] at du
              | _ => simp [Trm.nums]
        | _ => simp [Trm.isUk] at cu
      | false =>
        cases du : d.isUk with
        | true =>
          cases d with
          | unk y =>
            have ey := resU hd (fd y rfl)
            subst ey
            have hyU : y ∈ U := (vi (a', .unk y) List.mem_cons_self).2 y (by simp [Trm.nums])
            refine bindCase y c (.right cu) (fd y rfl) pc hyU a' hc (fun k e => ?_) (vi (a', .unk y) List.mem_cons_self).1 (by omega) (fun hp => ?_)
            · subst e
              cases hc with
              | free _ => simp [Trm.isUk] at cu
              | bound _ _ => simp [Trm.isUk] at cu
            · cases hc with
              | pair _ _ => simp [Trm.isPr] at hp
              | free _ => simp [Trm.isUk] at cu
              | bound _ _ => simp [Trm.isUk] at cu
              | _ => simp [Trm.nums]
          | _ => simp [Trm.isUk] at du
        | false =>
          cases pp : c.isPr && d.isPr with
          | false =>
            refine ⟨_, _, .clash ok pa pb pc pd rc rd same cu du pp len1, fun s hs z => ?_⟩
            have z1 := (sol_cons.mp z).1
            have z2 := (rc.sat hs).symm.trans (z1.trans (rd.sat hs))
            exact clash_sub same cu du pp z2
          | true =>
            cases c with
            | pair a1 a2 =>
              cases d with
              | pair b1 b2 =>
                cases hc with
                | @pair _ _ c1 c2 h1 h2 =>
                  cases hd with
                  | @pair _ _ d1 d2 h3 h4 =>
                    simp only [Trm.deep] at st1 st2
                    simp only [Trm.size] at hS
                    have viP := vi (.pair c1 c2, .pair d1 d2) List.mem_cons_self
                    obtain ⟨o, n, run, post⟩ := ihS ((a1, b1) :: (a2, b2) :: W) ((c1, d1) :: (c2, d2) :: R) (by simp only [wsize, List.map_cons, List.sum_cons]; omega) (fun e he => by
                      rcases List.mem_cons.mp he with rfl | he
                      · exact ⟨(hP _ _ pc).1, (hP _ _ pd).1⟩
                      rcases List.mem_cons.mp he with rfl | he
                      · exact ⟨(hP _ _ pc).2, (hP _ _ pd).2⟩
                      exact hW2 e he) (.cons ⟨h1, h3⟩ (.cons ⟨h2, h4⟩ wr)) (fun e he => by
                      rcases List.mem_cons.mp he with rfl | he
                      · exact ⟨fun k hk => viP.1 k (by simp [Trm.nums, hk]), fun k hk => viP.2 k (by simp [Trm.nums, hk])⟩
                      rcases List.mem_cons.mp he with rfl | he
                      · exact ⟨fun k hk => viP.1 k (by simp [Trm.nums, hk]), fun k hk => viP.2 k (by simp [Trm.nums, hk])⟩
                      exact vi2 e he) ⟨by rw [List.length_cons]; omega, by rw [List.length_cons]; omega, by omega, by omega, st3⟩
                    have d1p := Trm.deep_pos c1
                    refine ⟨o, _, .pairs ok pa pb pc pd rc rd same (by omega) run, ?_⟩
                    have eq : ∀ s, SatB s (look bs) → (Sol s ((a1, b1) :: (a2, b2) :: W) ↔ Sol s ((a, b) :: W)) := fun s hs => by
                      rw [sol_cons, sol_cons, sol_cons, rc.sat hs, rd.sat hs]
                      simp only [Trm.subst, Trm.pair.injEq, and_assoc]
                    cases o with
                    | none => exact fun s hs z => post s hs ((eq s hs).mpr z)
                    | some cs => exact fun s => ⟨fun ⟨h1, h2⟩ => (post s).mp ⟨h1, (eq s h1).mpr h2⟩, fun h => let q := (post s).mpr h; ⟨q.1, (eq s q.1).mp q.2⟩⟩
              | _ => simp [Trm.isPr] at pp
            | _ => simp [Trm.isPr] at pp
end Ab

namespace Ab
open PySem PySem.Spec PyProof.Rows L2
def spEnd : ASp := fun xs m q => match xs with
  | [.scr _] => Own m ∧ ∀ m', q (.bl true) m'
  | _ => False
theorem sp_end {K : PySem.W.Frag} {H : Hp} {a : Addr} {ns : List Int} (o : Only H) (h : SqL K H a (ns.map V.int)) : clF K spEnd [.ref a] H (fun v _ => v = .bl true) fun _ _ _ => False :=
  ⟨[.scr ns], fun _ => none, fun x _ => x = .bl true, .cons (.scr (.of o h)) .nil, (fun _ _ e => by cases e), ⟨(fun _ _ e => by cases e), fun _ => rfl⟩, fun x m v J l g r e => by
    subst e
    cases r
    rfl⟩
section
variable {P : Program} {w : World} {K : PySem.W.Frag} {mg mb : Str → Option Value} {k : Nat} {fa a : Addr} {fd : FuncData} {x : Str} {t₁ : Shared} {vs : List Value} {ns : List Int}
theorem call_at {J : Hp} (kx : K.In t₁.heap) (nsm : t₁.heap.Ns mainGlobals mg) (nsb : t₁.heap.Ns builtinsNs mb) (mbb : ∀ x : Str, x ≠ "__name__" → mb x = bootBuiltins x) (lim : t₁.heap.NoLimit) (gs : t₁.gens = #[])
    (here : t₁.heap.get? a = some { cls := .type "list", data := .seq vs.toArray }) (rm : Room k callerA) (F : ∀ base : Heap, K.In base → base.Ns mainGlobals mg → AFn P w K mg base k fa fd [x] spEnd)
    (bd : ∀ (s : Shared) (u : Value), BindsTo s fd ⟨[u], []⟩ [(x, u)]) (only : Only J) (sq : SqL K J a (ns.map V.int)) (jok : HOk P w J t₁.heap) (one : ∀ b, J b ≠ none → b = a) (out : J a ≠ none → K.lookup a = none) :
    codeAny (model P w) callerA (.call (.ref fa) ⟨[.ref a], []⟩) (fun r t' => r = .ok (.ret (.bool true)) ∧ OldK t₁.heap t'.heap ∧ t'.os = t₁.os ∧ AllBare t'.gens) t₁ := by
  have there : ∀ {b : Addr} {o : Obj}, t₁.heap.get? b = some o → (J b ≠ none → False) → (hidT t₁.heap J).get? b = some o := fun {b o} e n => hidT_get e (by
    cases q : J b with
    | none => rfl
    | some u => exact (n (by rw [q]; exact fun z => by cases z)).elim)
  have nsK : ∀ {b : Addr} {m : Str → Option Value}, t₁.heap.Ns b m → (hidT t₁.heap J).Ns b m := by
    rintro b m ⟨o, es, ep, e, d, r⟩
    refine ⟨o, es, ep, there e fun n => ?_, d, r⟩
    obtain rfl := one b n
    rw [here] at e
    cases e
    have z : Data.seq vs.toArray _ = Data.dict es ep := d
    cases z
  have kb : K.In (hidT t₁.heap J) := fun b o e => there (kx b o e) fun n => by
    obtain rfl := one b n
    rw [out n] at e
    cases e
  have hm : Mod K mg (hidT t₁.heap J) := ⟨kb, nsK nsm, ⟨mb, nsK nsb, mbb⟩, by obtain ⟨mc, h1, h2⟩ := lim; exact ⟨mc, nsK h1, h2⟩⟩
  have env : Env0 P w K mg (hidT t₁.heap J) callerA [] t₁ J := ⟨rfl, hm, fun _ _ e => of_hidT e, Nat.le_of_eq (hidT_size _ _), trivial, fun b hb => (List.not_mem_nil hb).elim, jok, .of_eq gs⟩
  have run := (F _ kb (nsK nsm)).go callerA [] t₁ J ⟨[.ref a], []⟩ [.ref a] [.ref a] _ _ rm rfl env (bd t₁ (.ref a)) (.cons rfl .nil) (sp_end only sq)
  refine codeAny_mono run fun r t' h => ?_
  match r, h with
  | .error e, h => exact False.elim h
  | .ok .next, h => exact False.elim h
  | .ok .brk, h => exact False.elim h
  | .ok .cont, h => exact False.elim h
  | .ok (.ret u), h =>
    obtain ⟨v, J', os, bare, un, jok', rv, q⟩ := h
    have q : v = .bl true := q
    subst q
    have rv : u = Value.bool true := rv
    subst rv
    refine ⟨rfl, OldK.of_keep fun b o e => ?_, os, bare⟩
    cases q : J b with
    | none => exact un.keep b o e q (fun z => (List.not_mem_nil z).elim) (by simp)
    | some u =>
      rcases only b with z | ⟨ob, xs, z⟩
      · rw [q] at z; cases z
      · have e1 := (jok b _ z).1
        have e2 := (jok' b _ (un.frzs b ob _ z)).1
        rw [e] at e1
        cases e1
        exact e2
theorem call_end (kx : K.In t₁.heap) (nsm : t₁.heap.Ns mainGlobals mg) (nsb : t₁.heap.Ns builtinsNs mb) (mbb : ∀ x : Str, x ≠ "__name__" → mb x = bootBuiltins x) (lim : t₁.heap.NoLimit) (gs : t₁.gens = #[])
    (here : t₁.heap.get? a = some { cls := .type "list", data := .seq vs.toArray }) (nums : IntsAre vs ns) (most : ns.length ≤ sizeLine) (rm : Room k callerA)
    (F : ∀ base : Heap, K.In base → base.Ns mainGlobals mg → AFn P w K mg base k fa fd [x] spEnd) (bd : ∀ (s : Shared) (u : Value), BindsTo s fd ⟨[u], []⟩ [(x, u)]) :
    codeAny (model P w) callerA (.call (.ref fa) ⟨[.ref a], []⟩) (fun r t' => r = .ok (.ret (.bool true)) ∧ OldK t₁.heap t'.heap ∧ t'.os = t₁.os ∧ AllBare t'.gens) t₁ := by
  have rel := vals_ints nums
  have lens := nums.length
  cases own : K.lookup a with
  | some o =>
    have e := kx a o own
    rw [here] at e
    cases e
    exact call_at (J := fun _ => none) kx nsm nsb mbb lim gs here rm F bd (fun _ => .inl rfl)
      (.inr ⟨_, vs.toArray, _, own, rfl, rfl, rfl, by rw [List.size_toArray, lens]; exact most, by simpa using rel⟩)
      (fun b u z => by cases z) (fun b z => (z rfl).elim) (fun z => (z rfl).elim)
  | none =>
    let J : Hp := fun b => if b = a then some (.frz { cls := .type "list", data := .seq vs.toArray } (.lst (ns.map V.int))) else none
    have ja : J a = some (.frz { cls := .type "list", data := .seq vs.toArray } (.lst (ns.map V.int))) := if_pos rfl
    have jb : ∀ b, b ≠ a → J b = none := fun b h => if_neg h
    refine call_at (J := J) kx nsm nsb mbb lim gs here rm F bd (fun b => ?_) (.inl (.inr ⟨_, ja⟩)) (fun b u z => ?_) (fun b z => ?_) (fun _ => own)
    · by_cases h : b = a
      · subst h
        exact .inr ⟨_, _, ja⟩
      · exact .inl (jb b h)
    · by_cases h : b = a
      · subst h
        rw [ja] at z
        cases z
        exact ⟨here, by rw [List.length_map]; exact most, vs, _, rel, here⟩
      · rw [jb b h] at z
        cases z
    · by_cases h : b = a
      · exact h
      · exact (z (jb b h)).elim
end
theorem walk_end {l : PySem.W.OpenLaw} {n k : Nat} {q : Program} {loose : List Str} {XP : (Str → Option Value) → Heap → Prop} {YP : World → Heap → Prop} {d : DefRec} {K : Params → PySem.W.Frag} {x : Str}
    (most : l.most = some n) (small : n ≤ sizeLine) (nod : d.params.defaults = []) (rm : Room k callerA) (yk : ∀ (w : World) (h : Heap), YP w h → (K w.params).In h)
    (F : ∀ (w : World) (mg : Str → Option Value) (fa : Addr) (h : Heap), (K w.params).In h → h.Ns mainGlobals mg → mg d.name = some (.ref fa) →
      ∃ fd : FuncData, (∀ (s : Shared) (u : Value), BindsTo s fd ⟨[u], []⟩ [(x, u)]) ∧ ∀ base : Heap, (K w.params).In base → base.Ns mainGlobals mg → AFn l.prog w (K w.params) mg base k fa fd [x] spEnd) :
    PySem.W.WalkO q loose XP YP l.row.toRowW d [] (fun f vs => PySem.call f vs) :=
  Att.attach_call most nod fun w s₀ t₁ mg mb fa o pm cd doc a vs ns G Y ho hd hcd hmg here nums size gs => by
    obtain ⟨fd, bd, pr⟩ := F w mg fa _ (yk w _ Y) G.T.g hmg
    exact call_end (yk w _ Y) G.T.g G.T.b G.T.builtins G.T.nolimit gs here nums (Nat.le_trans size small) rm pr bd
end Ab

namespace Ab
open PySem PySem.Spec PyProof.Rows L2
section
variable {X : Cx} {pins : List (Addr × Obj)} {σ : L2.St} {H : Hp} {s : Shared}
theorem plT_raw {a : Addr} {ws : List V} (I : Inv X pins σ H s) (h : PlT X.K H a ws) : ∃ (o : Obj) (its : List Value) (n : Nat), s.heap.get? a = some o ∧ o.cls = .type "tuple" ∧ o.dict = none ∧ o.data = .seq its.toArray n ∧ Vals ws its ∧ ws.length ≤ sizeLine := by
  rcases h with ⟨o, hd, h⟩ | ⟨o, its, n, hk, hc, hd, hs, hz, r⟩
  · obtain ⟨e, z, its, r, ⟨o2, e2, hc, n, hdt⟩⟩ := I.hok a _ h
    have e2 : s.heap.get? a = some o2 := e2
    rw [e] at e2
    cases e2
    exact ⟨o, its, n, e, hc, hd, hdt, r, z⟩
  · have e : ws.length = its.toList.length := r.length
    have e2 : its.toList.length = its.size := Array.length_toList
    exact ⟨o, its.toList, n, I.kIn a o hk, hc, hd, by rw [Array.toArray_toList]; exact hs, r, by omega⟩
def asPairs : List AV → Option (List (Key × AV))
  | [] => some []
  | .tup [k, v] :: r => match Ab.keyOf k, asPairs r with
    | some k, some l => some ((k, v) :: l)
    | _, _ => none
  | _ => none
theorem asPairs_cons {x : AV} {xs : List AV} {kvs : List (Key × AV)} (h : asPairs (x :: xs) = some kvs) : ∃ k v kk l, x = .tup [k, v] ∧ Ab.keyOf k = some kk ∧ asPairs xs = some l ∧ kvs = (kk, v) :: l := by
  unfold asPairs at h
  split at h
  · rename_i e
    cases e
  · rename_i k v r e
    cases e
    split at h
    · rename_i kk l e1 e2
      cases h
      exact ⟨_, _, kk, l, rfl, e1, e2, rfl⟩
    · cases h
  · cases h
def mergeA : List (Key × AV) → List (Key × AV) → List (Key × AV)
  | kvs, [] => kvs
  | kvs, (k, x) :: r => mergeA (putA kvs k x) r
theorem mergeA_sim {K : PySem.W.Frag} {H : Hp} : ∀ {more : List (Key × AV)} {rs : List (Key × V)} {kvs : List (Key × AV)} {vs : List (Key × V)}, SimK K H more rs → SimK K H kvs vs → SimK K H (mergeA kvs more) (mergeK vs rs)
  | _, _, _, _, .nil, h => h
  | (a, x) :: r, (b, v) :: r', kvs, vs, .cons h hs, h2 => by
    obtain ⟨e, s⟩ := h
    have e : a = b := e
    subst e
    exact mergeA_sim (more := r) (rs := r') hs (putA_sim h2 s)
theorem pairs_raw (I : Inv X pins σ H s) : ∀ {xs : List AV} {ws : List V} {kvs : List (Key × AV)}, SimVs X.K H xs ws → asPairs xs = some kvs →
    ∃ (ps : List Addr) (rs : List (Key × V)) (pv : List (Value × Value)) (qs : List (Key × Value)), ws = ps.map V.ref ∧ SimK X.K H kvs rs ∧ KV rs qs ∧ pv.length = ps.length ∧ qs.length = ps.length ∧
      ∀ (j : Nat) (k v : Value), pv[j]? = some (k, v) → ∃ (b : Addr) (key : Key), ps[j]? = some b ∧ PairAt s.heap b k v ∧ qs[j]? = some (key, v) ∧ keyIs key k = true
  | [], _, _, .nil, e => by
    cases e
    exact ⟨[], [], [], [], rfl, .nil, .nil, rfl, rfl, fun j k v e => by simp at e⟩
  | x :: xs, _, kvs, .cons h hs, e => by
    obtain ⟨k, v, kk, l, rfl, ek, el, rfl⟩ := asPairs_cons e
    obtain ⟨ps, rs, pv, qs, h1, h2, h3, h4, h5, h6⟩ := pairs_raw I hs el
    cases h with
    | tup f1 f2 =>
      rename_i a vs
      cases f2 with
      | cons s1 f2 =>
        cases f2 with
        | cons s2 f2 =>
          cases f2
          rename_i k' v'
          have hk := key_sim s1 ek
          subst hk
          obtain ⟨its, rv, ht, _⟩ := I.tuple f1.sq
          obtain ⟨u, y, ei, ru, ry⟩ := vals2 rv
          subst ei
          refine ⟨a :: ps, (kk, _) :: rs, (u, y) :: pv, (kk, y) :: qs, by rw [h1]; rfl, .cons ⟨rfl, s2⟩ h2, .cons ⟨rfl, ry⟩ h3, by simp [h4], by simp [h5], fun j k2 v2 e2 => ?_⟩
          cases j with
          | zero =>
            cases e2
            obtain ⟨o, g1, g2, n, g3⟩ := ht
            exact ⟨a, kk, rfl, .inl ⟨o, g1, g2, n, g3⟩, rfl, kV_is (P := X.prog) (w := X.w) ru⟩
          | succ j =>
            obtain ⟨b, key, e3, e4, e5, e6⟩ := h6 j k2 v2 (by simpa using e2)
            exact ⟨b, key, by simpa using e3, e4, by simpa using e5, e6⟩
theorem dict_tup (hc : X.calm = true) {xs : List AV} {ws : List V} {kvs : List (Key × AV)} {a : Addr} {Q : VK} (I : Inv X pins σ H s) (f1 : PlT X.K H a ws) (f2 : SimVs X.K H xs ws) (e : asPairs xs = some kvs)
    (q : ∀ (p : Addr) (rs : List (Key × V)), H p = none → SimK X.K H kvs rs → Q (.ref p) (L2.upd H p (.dK (mergeK [] rs)))) : wpAny (model X.prog X.w) X.A (call (.type "dict") [.ref a]) (EP X pins σ Q) X.xe s := by
  obtain ⟨o, its, n, g1, g2, g3, g4, r, hz⟩ := plT_raw I f1
  obtain ⟨ps, rs, pv, qs, h1, h2, h3, h4, h5, h6⟩ := pairs_raw I f2 e
  subst h1
  have ei := refs_at r
  subst ei
  rw [List.length_map] at hz
  have P := PairArg.tuple (prog := X.prog) (w := X.w) a (ps.map Value.ref).toArray (fun j => ps.getD j a) pv
  refine PySem.call_dict_pairs (knd := mixKind X.prog X.w) (kvs := qs) P (I.ok.hd hc) ⟨⟨o, n, g1, g2, g3, g4⟩, by simp [h4], fun j k v e => ?_⟩ ⟨by rw [h5, h4], fun j k v e => ?_⟩ (by rw [h4]; exact hz) fun h' tk hd k => ?_
  · obtain ⟨b, key, e1, e2, e3, e4⟩ := h6 j k v e
    have e5 : ps.getD j a = b := by rw [List.getD_eq_getElem?_getD, e1]; rfl
    show (ps.map Value.ref).toArray[j]? = some (.ref (ps.getD j a)) ∧ PairAt s.heap (ps.getD j a) k v
    rw [e5]
    refine ⟨?_, e2⟩
    simp [e1]
  · obtain ⟨b, key, e1, e2, e3, e4⟩ := h6 j k v e
    exact ⟨key, e3, e4⟩
  · have hm : (s.heap.objs.size == sysModules) = false := beq_eq_false_iff_ne.mpr (Nat.ne_of_gt I.big)
    have hlen : (mergeK [] rs).length ≤ sizeLine := by
      refine Nat.le_trans (length_mergeK rs []) ?_
      rw [List.length_nil, Nat.zero_add, Paired.length h3, h5]
      exact hz
    exact ⟨.ref s.heap.objs.size, _, I.laid (t' := tk) (o := .dK (mergeK [] rs)) (fun b o e => k b o (by simp) e) (Nat.le_refl _) ⟨hlen, hm, merged [] qs, KV.merge h3 .nil, hd⟩, rfl, q _ rs (I.hok.fresh (Nat.le_refl _)) h2⟩
end
section
variable {X : Cx}
def bDict : AL := fun xs0 m0 q0 => one (fun x m q => match x with
  | .tup xs => match asPairs xs with
    | some kvs => ∀ p, m p = none → q (.ref p) (updA m p (.dK (mergeA [] kvs)))
    | none => False
  | .ref a => match dAt m a with
    | some kvs => ∀ p, m p = none → q (.ref p) (updA m p (.dK kvs))
    | none => False
  | _ => False) xs0 m0 q0
theorem KE.newD {K : PySem.W.Frag} {H : Hp} {q : AK} {Q : VK} {m : AHp} {xs : List (Key × AV)} {vs : List (Key × V)} {p : Addr} (h : KE K H q Q) (g : SimH K H m) (r : SimK K H xs vs) (hp : H p = none) (k : ∀ p, m p = none → q (.ref p) (updA m p (.dK xs))) : Q (.ref p) (L2.upd H p (.dK vs)) :=
  h _ _ _ _ (.new hp) (g.new hp (o := .dK xs) ⟨vs, upd_same, SimK.mono (.new hp) r⟩) (.ref p) (k p (g.free hp))
theorem cb_dict (hc : X.calm = true) : CallR X (.type "dict") (clL X.K bDict) := cr_one fun pins s σ H v Q x m q us I rv s1 g z k => by
  cases x with
  | tup xs =>
    cases s1 with
    | tup f1 f2 =>
      cases ea : asPairs xs with
      | none => simp only [ea] at z
      | some kvs =>
        simp only [ea] at z
        cases rv with
        | cons r1 rr =>
          cases rr
          cases r1
          exact dict_tup hc I f1 f2 ea fun p rs hp r => k.newD g (mergeA_sim r .nil) hp z
  | ref a =>
    cases s1
    cases ea : dAt m a with
    | none => simp only [ea] at z
    | some kvs =>
      simp only [ea] at z
      obtain ⟨ws, f1, f2⟩ := dAt_rd g ea
      exact call_dictD pins s σ H _ us Q I rv ⟨a, ws, rfl, f1, fun p hp => k.newD g f2 hp z⟩
  | _ => exact (show False from z).elim
def keyInts : List (Key × AV) → Option (List Int)
  | [] => some []
  | (.inl i, _) :: r => (keyInts r).map (i :: ·)
  | _ => none
theorem keyInts_eq : ∀ {kvs : List (Key × AV)} {ks : List Int}, keyInts kvs = some ks → kvs.map (·.1) = ks.map Sum.inl
  | [], ks, h => by cases h; rfl
  | (.inl i, _) :: r, ks, h => by
    simp only [keyInts] at h
    cases e : keyInts r with
    | none => rw [e] at h; cases h
    | some l =>
      rw [e] at h
      cases h
      simp only [List.map_cons, keyInts_eq e]
  | (.inr i, _) :: r, ks, h => by cases h
theorem keys_same {K : PySem.W.Frag} {H : Hp} : ∀ {kvs : List (Key × AV)} {ws : List (Key × V)}, SimK K H kvs ws → ws.map (·.1) = kvs.map (·.1)
  | _, _, .nil => rfl
  | _ :: _, _ :: _, .cons h hs => by rw [List.map_cons, List.map_cons, keys_same hs, h.1]
def bSorted : AL := fun xs0 m0 q0 => one (fun x m q => match x with
  | .ref a => match m a with
    | some (.lst xs) => match asInts xs with
      | some ns => ∀ (ys : List Int) (p : Addr), ys.Perm ns → ys.Pairwise (· ≤ ·) → m p = none → q (.ref p) (updA m p (.lst (ys.map .int)))
      | none => False
    | some (.dK kvs) => match keyInts kvs with
      | some ks => ks.length < 64 ∧ ∀ (ys : List Int) (p : Addr), ys.Perm ks → ys.Pairwise (· ≤ ·) → m p = none → q (.ref p) (updA m p (.lst (ys.map .int)))
      | none => False
    | _ => False
  | _ => False) xs0 m0 q0
theorem cb_sorted (hc : X.calm = true) : CallR X (.builtin "sorted") (clL X.K bSorted) := cr_one fun pins s σ H v Q x m q us I rv s1 g z k => by
  cases x with
  | ref a =>
    cases s1
    cases ea : m a with
    | none => simp only [ea] at z
    | some ob =>
      obtain ob := ob
      cases ob with
      | lst xs =>
        cases en : asInts xs with
        | none => simp only [ea, en] at z
        | some ns =>
          simp only [ea, en] at z
          obtain ⟨ws, f1, f2⟩ := g a _ ea
          rw [asInts_eq en] at f2
          have e := SimVs.ints f2
          subst e
          exact cr_sortedI pins s σ H _ us Q I rv ⟨a, ns, rfl, SqL.of f1, fun ys p h1 h2 hp => k.newL g SimVs.of_ints hp fun p hp => z ys p h1 h2 hp⟩
      | dK kvs =>
        cases en : keyInts kvs with
        | none => simp only [ea, en] at z
        | some ks =>
          simp only [ea, en] at z
          obtain ⟨ws, f1, f2⟩ := g a _ ea
          exact call_sortedDI hc pins s σ H _ us Q I rv ⟨a, ws, ks, rfl, .inl f1, (keys_same f2).trans (keyInts_eq en), z.1, fun ys p h1 h2 hp => k.newL g SimVs.of_ints hp fun p hp => z.2 ys p h1 h2 hp⟩
      | _ => simp only [ea] at z
  | _ => exact (show False from z).elim
def bMax : AL := fun xs m q => match xs with
  | [.int i, .int j] => q (.int (if j > i then j else i)) m
  | _ => False
theorem cb_max (hc : X.calm = true) : CallR X (.builtin "max") (clL X.K bMax) := by
  intro pins s σ H vs us Q I rv ⟨xs, m, q, s1, g, z, k⟩
  have main : ∃ i j, xs = [.int i, .int j] ∧ q (.int (if j > i then j else i)) m := by
    unfold bMax at z
    split at z
    · exact ⟨_, _, rfl, z⟩
    · exact (show False from z).elim
  obtain ⟨i, j, rfl, z⟩ := main
  match s1 with
  | .cons r1 (.cons r2 .nil) =>
    cases r1
    cases r2
    exact call_max2 hc pins s σ H _ us Q I rv ⟨i, j, rfl, k _ _ _ _ .refl g (.int _) z⟩
def bMulL : AR2 := fun x y m q => match x, y with
  | .int i, .int j => CMul i j ∧ q (.int (i * j)) m
  | .ref a, .int k => match m a with
    | some (.lst xs) => -(2 ^ 63) ≤ k ∧ k < 2 ^ 63 ∧ xs.length * k.toNat ≤ sizeLine ∧ ∀ p, m p = none → q (.ref p) (updA m p (.lst (List.replicate k.toNat xs).flatten))
    | _ => False
  | _, _ => False
theorem SimVs.rep {K : PySem.W.Frag} {H : Hp} {xs : List AV} {vs : List V} (h : SimVs K H xs vs) : ∀ n : Nat, SimVs K H (List.replicate n xs).flatten (List.replicate n vs).flatten
  | 0 => .nil
  | n + 1 => by
    rw [List.replicate_succ, List.replicate_succ, List.flatten_cons, List.flatten_cons]
    exact h.append (SimVs.rep h n)
theorem ob_mulL : OpR X (binaryOp .Mult) (cl2 X.K bMulL) := by
  intro pins s σ H v w u1 u2 Q I r1 r2 ⟨x, y, m, q, s1, s2, g, z, k⟩
  cases x <;> cases y <;> first | exact (show False from z).elim | skip
  · exact ob_mul pins s σ H _ _ u1 u2 Q I r1 r2 ⟨_, _, m, q, s1, s2, g, z, k⟩
  · rename_i a i
    cases s1
    cases s2
    have z : (match m a with | some (.lst xs) => -(2 ^ 63) ≤ i ∧ i < 2 ^ 63 ∧ xs.length * i.toNat ≤ sizeLine ∧ ∀ p, m p = none → q (.ref p) (updA m p (.lst (List.replicate i.toNat xs).flatten)) | _ => False) := z
    split at z
    · rename_i xs e
      obtain ⟨ws, f1, f2⟩ := g a _ e
      exact op_rep pins s σ H _ _ u1 u2 Q I r1 r2 ⟨a, i, ws, rfl, rfl, f1, z.1, z.2.1, by rw [← f2.length]; exact z.2.2.1, fun p hp => k.newL g (f2.rep _) hp z.2.2.2⟩
    · exact (show False from z).elim
end
section
variable {X : Cx} {pos : Pos} {e f : Expr} {te tf : ATE}
def aDisp1 (te tf : ATE) : ATE := fun a m q => te a m fun x m1 => tf a m1 fun y m2 => match Ab.keyOf x with
  | some k => ∀ p, m2 p = none → q (.ref p) (updA m2 p (.dK [(k, y)]))
  | none => False
def aDispF (te tf : ATE) : ATE := fun a m q => ∀ p, m p = none → te a (updA m p (.dK [])) fun x m1 => tf a m1 fun y m2 => m2 p = some (.dK []) ∧ match Ab.keyOf x with
  | some k => q (.ref p) (updA m2 p (.dK [(k, y)]))
  | none => False
theorem ae_disp1 (he : AE X e te) (hf : AE X f tf) : AE X (.Dict [some e] [f] pos) (aDispF te tf) := peI (pe_disp (pps_cons he hf pps_nil) (by rfl) (by rfl) (fun z => by cases z) (show 1 ≤ 15 by decide)) fun σ H Q ⟨a, m, q, h1, h2, h3, h4⟩ => by
  intro p hp
  have z := h3 p (h2.free hp)
  refine ⟨a, _, _, h1.mono (.new hp), h2.new hp (o := .dK []) ⟨[], upd_same, .nil⟩, z, fun x m1 v H1 l1 g1 r1 q1 => ⟨a, m1, _, (h1.mono (.new hp)).mono l1, g1, q1, fun y m2 w H2 l2 g2 r2 q2 => ?_⟩⟩
  obtain ⟨e2, q2⟩ := q2
  cases ek : Ab.keyOf x with
  | none => simp only [ek] at q2
  | some kk =>
    simp only [ek] at q2
    have hk := key_sim r1 ek
    subst hk
    obtain ⟨ws, f1, f2⟩ := g2 p _ e2
    cases f2
    refine ⟨f1, [(kk, w)], rfl, (show 1 ≤ 15 by decide), ?_⟩
    have em : mergeK [] [(kk, w)] = [(kk, w)] := rfl
    rw [em]
    exact h4 _ _ _ _ ((Le.new hp).trans (l1.trans (l2.trans (.dict f1)))) (g2.dictPut e2 f1 (.cons ⟨rfl, r2⟩ .nil)) (.ref p) q2
end
end Ab

set_option maxHeartbeats 4000000
namespace Ab
open PySem PySem.Spec PyProof.Rows L2
section
variable {P : Program} {w : World} {A : Around} {E : Value → Shared → Prop} {s : Shared}
abbrev emptySet (w : World) : Obj := { cls := .type "set", dict := none, data := .set #[] 0 (.fresh 0 0 (!w.params.followText "set-order")) }
theorem set_of_list {l : Addr} {us : Array Value} (ns : List Int) {Q : Value → Shared → Prop} (hh : A.handled = none) (hl : s.heap.IsList l us) (hit : IntsAre us.toList ns) (hb : ns.length + 1 < scanBound)
    (fin : ∀ (h' : Heap) (tk c : Nat), SetR w h' s.heap.objs.size (fun j => decide (j ∈ ns)) c → c ≤ ns.length → (∀ b o, s.heap.get? b = some o → h'.get? b = some o) → Q (.ref s.heap.objs.size) { s with heap := h', toks := tk }) :
    wpAny (model P w) A (call (.type "set") [.ref l]) Q E s := by
  have size : us.size = ns.length := by
    have q := IntsAre.length hit
    rwa [Array.length_toList] at q
  obtain ⟨c0, tl, hmro⟩ := F.called_set.mro
  have hmade := F.called_set.made
  have hsub := F.called_set.sub
  have h1 := F.called_set.notType
  have h2 := F.called_set.canCreate
  have hct := F.typeCall_set_1 (.ref l)
  have top : codeAny (model P w) A (.call (.type "set") ⟨[.ref l], []⟩) (wants Q E) s := by
    refine codeAny_of_tree (show wpAny _ _ (callAny (.type "set") _) _ _ _ from wpAny_pure ⟨Code.quiet_builtin _ (by decide +kernel), codeAny_builtin F.entry_type_call ?_⟩)
    rw [Around.under_plain (weight_type_call_type "set" [.ref l] []) rfl]
    repeat (any_goals (first | assumption | wp_step))
    refine codeAny_mono (code_set_led1 (.ref l) (E := E) (Q₁ := fun obj s₁ => obj = .ref s.heap.objs.size ∧ s₁ = { s with heap := s.heap.push (emptySet w) }) ⟨rfl, rfl⟩) fun r s₁ hr => ?_
    match r, hr with
    | .error e, hr => exact hr
    | .ok .next, hr => exact hr.elim
    | .ok .brk, hr => exact hr.elim
    | .ok .cont, hr => exact hr.elim
    | .ok (.ret obj), hr =>
      obtain ⟨rfl, rfl⟩ := hr
      have made : (s.heap.push (emptySet w)).get? s.heap.objs.size = some (emptySet w) := Heap.get?_push_size _ rfl
      have hT : Shared.TypeIs { s with heap := s.heap.push (emptySet w) } (.ref s.heap.objs.size) "set" := ⟨_, made, rfl⟩
      have hli := F.called_set.init.lookup
      have hbi := F.called_set.init.bind (.ref s.heap.objs.size)
      repeat (any_goals (first | assumption | wp_step))
      refine codeAny_mono (codeAny_call_builtin (R := wants (fun v s₂ => v = .none ∧ ∃ h' tk c, s₂ = { s with heap := h', toks := tk } ∧ SetR w h' s.heap.objs.size (fun j => decide (j ∈ ns)) c ∧ c ≤ ns.length ∧ (∀ b o, s.heap.get? b = some o → h'.get? b = some o)) E)
        F.called_set.init.plain F.entry_set_init (check_set_init_1 hT ?_)) fun r₂ s₂ hr₂ => ?_
      · obtain ⟨⟨ocls, odict, odata, oslots⟩, hol, hcl, nl, hdl⟩ := hl
        simp only at hcl hdl
        subst hcl
        subst hdl
        have kept : ∀ {b : Addr} {o : Obj}, s.heap.get? b = some o → (s.heap.push (emptySet w)).get? b = some o := fun e => Heap.get?_push_of_some _ e
        have hol' := kept hol
        have hsls := F.sub_list_set
        have hslf := F.sub_list_frozenset
        have hne : (Value.type "list" == Value.type "dict") = false := by decide
        have hl1 : (s.heap.push (emptySet w)).IsList l us := ⟨_, hol', rfl, nl, rfl⟩
        unfold Builtin.«set.__init__» noKeywords Builtin.Frozenset.updateFrom
        generalize hPI : pyIter = PI
        wp_walk
        subst hPI
        refine wpAny_pyIter_list hl1 (wpAny_bind (wpAny_runValue ?_))
        have lt : l < s.heap.objs.size := Heap.lt_size hol
        have nI : l ≠ (s.heap.push (emptySet w)).objs.size := by rw [Heap.size_push]; exact Nat.ne_of_lt (Nat.lt_succ_of_lt lt)
        have hSf : s.heap.objs.size ∉ [(s.heap.push (emptySet w)).objs.size, l] := by
          rw [Heap.size_push]
          simp only [List.mem_cons, List.not_mem_nil, or_false, not_or]
          exact ⟨Nat.ne_of_lt (Nat.lt_succ_self _), Nat.ne_of_gt lt⟩
        have val : ∀ (i : Nat) (v : Value), us[i]? = some v → ∃ k t, ns[i]? = some k ∧ v = .int k t := fun i v hv => by
          have hi : i < ns.length := by rw [← size]; exact (Array.getElem?_eq_some_iff.mp hv).1
          obtain ⟨t, e⟩ := PyProof.Rows.IntsAre.int_at hit i v (by rw [Array.getElem?_toList]; exact hv)
          exact ⟨ns[i], t, List.getElem?_eq_getElem hi, by rw [e, List.getD_eq_getElem?_getD, List.getElem?_eq_getElem hi] <;> rfl⟩
        refine set_update_ints ((Walks.list (show A.in1.in1.in1.handled = none by simp [hh]) _ l nI us).toS) s.heap.objs.size hSf ns size hb val (us.size - 0) 0 _ (by omega) (Nat.zero_le _) ⟨⟨_, Heap.get?_push_size _ rfl, rfl, rfl⟩, hl1.push _⟩ ⟨0, Nat.le_refl 0, setR_new_at (Heap.get?_push_of_some _ made)⟩ fun s' c' hm hc' hS' => ?_
        obtain ⟨h', g2, d', tk', os'⟩ := s'
        obtain rfl : g2 = s.gens := hm.gens
        obtain rfl : d' = s.drawn := hm.drawn
        obtain rfl : os' = s.os := hm.os
        show wpAny _ _ _ _ _ _
        refine wpAny_pure ?_
        show wpAny _ _ (ret Value.none) _ _ _
        rw [size] at hc'
        refine wpAny_pure ⟨rfl, h', tk', c', rfl, hS', hc', fun b o e => ?_⟩
        have b0 : b < s.heap.objs.size := Heap.lt_size e
        refine hm.heap b o ?_ (Heap.get?_push_of_some _ (kept e))
        simp only [List.mem_cons, List.not_mem_nil, or_false, not_or]
        exact ⟨Nat.ne_of_lt b0, by rw [Heap.size_push]; exact Nat.ne_of_lt (Nat.lt_succ_of_lt b0)⟩
      · match r₂, hr₂ with
        | .error e, hr₂ => exact hr₂
        | .ok .next, hr₂ => exact hr₂.elim
        | .ok .brk, hr₂ => exact hr₂.elim
        | .ok .cont, hr₂ => exact hr₂.elim
        | .ok (.ret v), hr₂ =>
          obtain ⟨rfl, h', tk, c', rfl, hS', hc', hk'⟩ := hr₂
          repeat (any_goals (first | assumption | wp_step))
          exact fin _ _ _ hS' hc' hk'
  exact wpAny_call top
end
def tSortSet (K : PySem.W.Frag) (ta : TE) : TE := fun σ H Q => ta σ H fun x H1 => ∃ (l : Addr) (ns : List Int), x = .ref l ∧ SqL K H1 l (ns.map V.int) ∧ ns.length < 64 ∧
  ∀ (ys : List Int) (p : Addr), ys.Pairwise (· < ·) → (∀ k, k ∈ ys ↔ k ∈ ns) → H1 p = none → Q (.ref p) (L2.upd H1 p (.lst (ys.map V.int)))
section
variable {X : Cx} {a : Expr} {p p2 q2 pos : Pos}
theorem pe_sortSet {ta : TE} (hg : Gl X "sorted") (hm : X.mg "sorted" = none) (hg2 : Gl X "set") (hm2 : X.mg "set" = none) (ha : PE X a ta) (hc : X.calm = true := by rfl)
    (na : starEach [a] X.env = (false, eval a X.env) :: starEach [] X.env := by rfl) : PE X (.Call (.Name "sorted" p) [.Call (.Name "set" p2) [a] [] q2] [] pos) (tSortSet X.K ta) := by
  refine ⟨fun pins s σ H Q I h => ?_⟩
  refine Call_ (ld_blt I hg hm PyProof.Rows.boot_sorted ?_)
  refine PyProof.Rows.callWith_builtin1 (PyProof.Rows.args_cons ?_ rfl) rfl rfl
  refine Call_ (ld_blt I hg2 hm2 PyProof.Rows.boot_set ?_)
  refine PyProof.Rows.callWith_type1 (PyProof.Rows.args_cons (thn (ha.run pins s σ H _ I h) fun v s1 ⟨x, H1, I1, r1, q1⟩ => PyProof.Rows.args_nil ?_) na) na rfl
  obtain ⟨l, ns, rfl, hq, hl, q1⟩ := q1
  cases r1
  obtain ⟨its, r, pl, hz⟩ := I1.list hq
  have hd := I1.ok.hd hc
  refine set_of_list ns hd pl.isList (by simpa using r.ints) (by unfold scanBound; omega) fun h' tk c R hcn k => PyProof.Rows.args_nil ?_
  refine sorted_set (s := { s1 with heap := h', toks := tk }) R hd (by omega) fun s' p out cc ys k2 g2 o2 hp e hi hy hm hl2 => ?_
  have kall : ∀ b o, s1.heap.get? b = some o → s'.heap.get? b = some o := fun b o e => k2 b o (k b o e)
  have lt := R.lt
  have hp1 : s1.heap.objs.size ≤ p := Nat.le_trans (Nat.le_of_lt lt) hp
  have hn : H1 p = none := I1.hok.fresh hp1
  have lenY : (ys.map V.int).length ≤ sizeLine := by rw [List.length_map, hl2, sizeLine_eq]; omega
  exact ⟨.ref p, _, I1.call' (ch := []) o2 (Un.laid kall hp1 hn) (I1.hok.laid (o := .lst (ys.map V.int)) kall hp1 ⟨lenY, out.toList, cc, vals_of_ints hi, e⟩) (by rw [g2]; exact I1.bare) (fun _ z => nomatch z), rfl, q1 ys p hy (fun j => (hm j).trans decide_eq_true_iff) hn⟩
def aSortSet (te : ATE) : ATE := fun t m q => te t m fun x m1 => match x with
  | .ref a => match m1 a with
    | some (.lst xs) => match asInts xs with
      | some ns => ns.length < 64 ∧ ∀ (ys : List Int) (p : Addr), ys.Pairwise (· < ·) → (∀ k, k ∈ ys ↔ k ∈ ns) → m1 p = none → q (.ref p) (updA m1 p (.lst (ys.map .int)))
      | none => False
    | _ => False
  | _ => False
theorem ae_sortSet {te : ATE} (hg : Gl X "sorted") (hm : X.mg "sorted" = none) (hg2 : Gl X "set") (hm2 : X.mg "set" = none) (ha : AE X a te) (hc : X.calm = true := by rfl)
    (na : starEach [a] X.env = (false, eval a X.env) :: starEach [] X.env := by rfl) : AE X (.Call (.Name "sorted" p) [.Call (.Name "set" p2) [a] [] q2] [] pos) (aSortSet te) := peI (pe_sortSet hg hm hg2 hm2 ha hc na) fun σ H Q ⟨t, m, q, h1, h2, h3, h4⟩ => by
  refine ⟨t, m, _, h1, h2, h3, fun x m1 v H1 l1 g1 r1 q1 => ?_⟩
  cases x with
  | ref b =>
    cases r1
    cases eb : m1 b with
    | none => simp only [eb] at q1
    | some ob =>
      cases ob with
      | lst xs =>
        cases en : asInts xs with
        | none => simp only [eb, en] at q1
        | some ns =>
          simp only [eb, en] at q1
          obtain ⟨ws, f1, f2⟩ := g1 b _ eb
          rw [asInts_eq en] at f2
          have e := SimVs.ints f2
          subst e
          exact ⟨b, ns, rfl, SqL.of f1, q1.1, fun ys p h1 h2 hp => (h4.mono l1).newL g1 SimVs.of_ints hp fun p hp => q1.2 ys p h1 h2 hp⟩
      | _ => simp only [eb] at q1
  | _ => exact (show False from q1).elim
end
end Ab

namespace Ab
open PySem PySem.Spec PyProof.Rows L2
structure FunE (K : PySem.W.Frag) (x qual : Str) (st : Stmt) (f : Addr) (fd : FuncData) : Prop where
  ex : ∃ (oc : Value) (od : Option Addr) (dV kV doc pm : Value) (an : Option Addr) (cdv ct : Value) (osl : Array (Option Value)), fd = PySem.W.fnOf x qual (defArgs st) (defBody st) (defScope st) dV kV doc pm an cdv ct ∧
    K.lookup f = some ⟨oc, od, .func fd, osl⟩ ∧ PySem.W.codeIn K cdv qual = true
theorem okE {P : Program} {w : World} {K : PySem.W.Frag} {mg : Str → Option Value} {base : Heap} {x qual : Str} {st : Stmt} {f : Addr} {fd : FuncData} {N ps : List Str} {k : Nat} {sp : ASp} (F : FunE K x qual st f fd) (S : FnScope N ps (defScope st))
    (len : ∀ xs m q, sp xs m q → xs.length = ps.length)
    (hb : ∀ (cdv : Value) (A : Around) (o : List Env) (s : Shared) (H : Hp) (E : XK), Room k (A.deeper (envOfC qual (defScope st) s.heap.objs.size f cdv)) → A.guards = some [] →
      ∃ t, ASs (cxOf CX0 P w K mg base N qual (defScope st) f cdv A o s H E).nox (defBody st) t ∧ ∀ H xs m q, sp xs m q → SimH K H m → ∃ m1, SimH K H m1 ∧ t ⟨fun _ m' => Fin K q .non m', fun v m' => Fin K q v m', fun _ _ => False, fun _ _ => False⟩ (startA N xs) m1) : AFn P w K mg base (k + 1) f fd ps sp := by
  obtain ⟨oc, od, dV, kV, doc, pm, an, cdv, ct, osl, rfl, lk, hcd⟩ := F.ex
  refine bodyG lk hcd S (fun vs H Q E ⟨xs, m, q, h1, _, h3, _⟩ => by rw [← h1.length]; exact len xs m q h3) fun A o s H vs Q E hr hg ⟨xs, m, q, h1, h2, h3, h4⟩ => ?_
  obtain ⟨t, ht, go⟩ := hb cdv A o s H E hr hg
  have fin : KE K H (fun v m' => Fin K q v m') Q := fun v m' u H' l g r ⟨m2, z1, z2⟩ => h4 v m2 u H' l (z1 _ g) r z2
  obtain ⟨m1, g1, z⟩ := go H xs m q h3 h2
  exact ⟨_, ht.nox, startA N xs, m1, _, start_sim h1, g1, z, ⟨fun t' m' σ' H' l s g z => fin .non m' .non H' l g .non z, fin, fun _ _ _ _ _ _ _ z => z.elim, fun _ _ _ _ _ _ _ z => z.elim⟩⟩
structure TopE (K : PySem.W.Frag) (mg : Str → Option Value) (x : Str) (st : Stmt) (ps : List Str) (dxs : List AV) (n : Nat) (ks : List Str) : Prop where
  ex : ∃ f fd dvs ds, mg x = some (.ref f) ∧ FunE K x x st f fd ∧ PySem.W.keepIn K (.ref f) = true ∧ Binds K fd ps [] ∧ Binds K fd ps ds ∧ Vals dvs ds ∧ (∀ H, SimVs K H dxs dvs) ∧ KBn K fd ps n ks (fun us ws => us ++ ws) (fun vs zs => vs ++ zs)
structure DefE (P : Program) (w : World) (K : PySem.W.Frag) (mg : Str → Option Value) (base : Heap) (k : Nat) (x : Str) (ps : List Str) (dxs : List AV) (n : Nat) (ks : List Str) (sp : ASp) : Prop where
  ex : ∃ f fd dvs ds, mg x = some (.ref f) ∧ PySem.W.keepIn K (.ref f) = true ∧ Binds K fd ps [] ∧ Binds K fd ps ds ∧ Vals dvs ds ∧ (∀ H, SimVs K H dxs dvs) ∧ KBn K fd ps n ks (fun us ws => us ++ ws) (fun vs zs => vs ++ zs) ∧ AFn P w K mg base k f fd ps sp
section
variable {P : Program} {w : World} {K : PySem.W.Frag} {mg : Str → Option Value} {base : Heap} {x : Str} {ps ks : List Str} {dxs : List AV} {n k : Nat} {sp : ASp}
theorem DefE.up {j : Nat} (D : DefE P w K mg base j x ps dxs n ks sp) (h : j ≤ k) : DefE P w K mg base k x ps dxs n ks sp :=
  let ⟨f, fd, dvs, ds, a, b, c, d, e, g, i, F⟩ := D.ex; ⟨f, fd, dvs, ds, a, b, c, d, e, g, i, FnG.up F h⟩
theorem DefE.all (D : DefE P w K mg base k x ps dxs n ks sp) : Def P w K mg base k x ps sp :=
  let ⟨f, fd, dvs, ds, a, b, c, d, e, g, i, F⟩ := D.ex; ⟨f, fd, a, b, c, F⟩
theorem okTE {st : Stmt} {N : List Str} (T : TopE K mg x st ps dxs n ks) (S : FnScope N ps (defScope st)) (len : ∀ xs m q, sp xs m q → xs.length = ps.length)
    (hb : ∀ (f : Addr) (cdv : Value) (A : Around) (o : List Env) (s : Shared) (H : Hp) (E : XK), Room k (A.deeper (envOfC x (defScope st) s.heap.objs.size f cdv)) → A.guards = some [] →
      ∃ t, ASs (cxOf CX0 P w K mg base N x (defScope st) f cdv A o s H E).nox (defBody st) t ∧ ∀ H xs m q, sp xs m q → SimH K H m → ∃ m1, SimH K H m1 ∧ t ⟨fun _ m' => Fin K q .non m', fun v m' => Fin K q v m', fun _ _ => False, fun _ _ => False⟩ (startA N xs) m1) : DefE P w K mg base (k + 1) x ps dxs n ks sp := by
  obtain ⟨f, fd, dvs, ds, hm, F, hk, b1, b2, hv, hs, hk2⟩ := T.ex
  exact ⟨f, fd, dvs, ds, hm, hk, b1, b2, hv, hs, hk2, okE F S len fun cdv A o s H E hr hg => hb f cdv A o s H E hr hg⟩
end
section
variable {X : Cx} {C : CXT} {k n : Nat} {f : Addr} {fd : FuncData} {ps ks : List Str} {sp : Sp} {E : XK} {x : Str} {p pos : Pos} {e : Expr} {es : List Expr} {kws : List Keyword} {t tk : TA} {g : List Value → List Value → List Value} {gV : List V → List V → List V}
theorem callGK {pins : List (Addr × Obj)} {σ : L2.St} {H : Hp} {s : Shared} {Q : VK} {us ws : List Value} {vs zs : List V} (F : FnG X.prog X.w X.K X.mg X.base C k f fd ps sp) (hr : Room k X.A) (hgd : X.A.guards = some []) (hb : KBn X.K fd ps n ks g gV) (hx : Passes C X E)
    (I : Inv X pins σ H s) (r : Vals vs us) (rz : Vals zs ws) (l1 : vs.length = n) (l2 : zs.length = ks.length) (z : sp (gV vs zs) H Q E) : wpAny (model X.prog X.w) X.A (call (.ref f) us (ks.zip ws)) (EP X pins σ Q) X.xe s := by
  have run := F.go X.A X.stack s H ⟨us, ks.zip ws⟩ (g us ws) (gV vs zs) Q E hr hgd I.env0 (hb.to s us ws I.kIn (r.length.symm.trans l1) (rz.length.symm.trans l2)) (hb.rel r rz) z
  refine wpAny_call (codeAny_mono run fun a s2 q => ?_)
  match a, q with
  | .error y, q => exact hx pins σ H s y s2 I q
  | .ok (.ret u), q => exact I.after q
  | .ok .next, q => exact False.elim q
  | .ok .brk, q => exact False.elim q
  | .ok .cont, q => exact False.elim q
theorem pe_callGK (F : FnG X.prog X.w X.K X.mg X.base C k f fd ps sp) (hr : Room k X.A) (hgd : X.A.guards = some []) (hg : Gl X x) (hm : X.mg x = some (.ref f)) (hk : PySem.W.keepIn X.K (.ref f) = true) (hb : KBn X.K fd ps n ks g gV) (hx : Passes C X E)
    (ha : PA X (e :: es) t) (hkw : PK X kws tk) (hall : (backToKw pos (keywordEach kws X.env)).all (·.1.isSome) = true := by rfl) (hks : (backToKw pos (keywordEach kws X.env)).filterMap (·.1) = ks := by rfl)
    (nd : (x == ("__debug__" : Str)) = false := by decide) (se : starEach (e :: es) X.env = (false, eval e X.env) :: starEach es X.env := by rfl)
    (sp0 : ((backTo pos (starEach (e :: es) X.env)).any (·.1) || (backToKw pos (keywordEach kws X.env)).any (·.1.isNone)) = false := by rfl) : PE X (.Call (.Name x p) (e :: es) kws pos) (L2.tCallN n ks.length sp gV E t tk) := by
  refine ⟨fun pins s σ H Q I h => wpAny_Call_Name_kw (ld_glob I hg hm ?_ nd)⟩
  refine PySem.W.callWith_KW (h₀ := X.base) I.ok.mod.kin hk hall (thn (ha.run pos pins s σ H _ I h) fun us s1 ⟨vs, H1, I1, r, q⟩ => thn (hkw.run pos pins s1 σ H1 _ I1 q) fun ws s2 ⟨zs, H2, I2, rz, l1, l2, q2⟩ => ⟨I2.kIn, ?_⟩) sp0 se
  rw [hks]
  exact callGK F hr hgd hb hx I2 r rz l1 l2 q2
end
abbrev AKw (X : Cx) (kws : List Keyword) (t : ATA) : Prop := PK X kws (clA X.K t)
theorem pkI {X : Cx} {kws : List Keyword} {t u : TA} (h : PK X kws t) (i : ∀ σ H Q, u σ H Q → t σ H Q) : PK X kws u := ⟨fun pos pins s σ H Q I q => h.run pos pins s σ H Q I (i σ H Q q)⟩
def aCallK (sp : ASp) (n j : Nat) (t tk : ATA) : ATE := fun a m q => t a m fun xs m1 => tk a m1 fun ys m2 => xs.length = n ∧ ys.length = j ∧ sp (xs ++ ys) m2 q
section
variable {X : Cx} {k j n : Nat} {ps ks : List Str} {sp : ASp} {dxs : List AV} {x nm : Str} {p pos kpos : Pos} {e : Expr} {es : List Expr} {kws : List Keyword} {t tk : ATA} {te : ATE}
theorem ak_nil : AKw X [] aNil := pkI pk_nil fun _ H _ ⟨t, m, q, h1, h2, h3, h4⟩ => h4 [] m [] H .refl h2 .nil h3
theorem ak_cons (ha : AE X e te) (hr : AKw X kws tk) : AKw X (⟨nm, e, kpos⟩ :: kws) (aCons te tk) := pkI (pk_cons ha hr) fun _ _ _ ⟨t, m, q, h1, h2, h3, h4⟩ =>
  ⟨t, m, _, h1, h2, h3, fun x m1 v H1 l1 g1 r1 q1 => ⟨t, m1, _, h1.mono l1, g1, q1, fun xs m2 vs H2 l2 g2 r2 q2 => h4 _ _ _ _ (l1.trans l2) g2 (.cons (r1.mono l2) r2) q2⟩⟩
theorem ae_callE1 (D : DefE X.prog X.w X.K X.mg X.base k x ps dxs n ks sp) (hr : Room j X.A) (hkj : k ≤ j) (hgd : X.A.guards = some []) (hg : Gl X x) (ha : AA X (e :: es) t) (nd : (x == ("__debug__" : Str)) = false := by decide)
    (se : starEach (e :: es) X.env = (false, eval e X.env) :: starEach es X.env := by rfl) (sp0 : (backTo pos (starEach es X.env)).any (·.1) = false := by rfl) : AE X (.Call (.Name x p) (e :: es) [] pos) (aCall sp dxs t) := by
  obtain ⟨f, fd, dvs, ds, hm, hk, b1, b2, hv, hs, hk2, F⟩ := D.ex
  exact ae_callD F (hr.mono hkj) hgd hg hm hk b2 hv hs ha nd se sp0
theorem ae_callEK {jn : Nat} (D : DefE X.prog X.w X.K X.mg X.base k x ps dxs n ks sp) (hr : Room j X.A) (hkj : k ≤ j) (hgd : X.A.guards = some []) (hg : Gl X x) (ha : AA X (e :: es) t) (hkw : AKw X kws tk) (hj : ks.length = jn := by rfl)
    (hall : (backToKw pos (keywordEach kws X.env)).all (·.1.isSome) = true := by rfl) (hks : (backToKw pos (keywordEach kws X.env)).filterMap (·.1) = ks := by rfl)
    (nd : (x == ("__debug__" : Str)) = false := by decide) (se : starEach (e :: es) X.env = (false, eval e X.env) :: starEach es X.env := by rfl)
    (sp0 : ((backTo pos (starEach (e :: es) X.env)).any (·.1) || (backToKw pos (keywordEach kws X.env)).any (·.1.isNone)) = false := by rfl) : AE X (.Call (.Name x p) (e :: es) kws pos) (aCallK sp n jn t tk) := by
  subst hj
  obtain ⟨f, fd, dvs, ds, hm, hk, b1, b2, hv, hs, hk2, F⟩ := D.ex
  refine peI (pe_callGK F (hr.mono hkj) hgd hg hm hk hk2 pass0 ha hkw hall hks nd se sp0) fun σ H Q ⟨a, m, q, h1, h2, h3, h4⟩ => ⟨a, m, _, h1, h2, h3, fun xs m1 vs H1 l g r z => ⟨a, m1, _, h1.mono l, g, z, fun ys m2 zs H2 l2 g2 r2 ⟨z1, z2, z3⟩ => ?_⟩⟩
  exact ⟨by rw [← r.length]; exact z1, by rw [← r2.length]; exact z2, xs ++ ys, m2, q, (r.mono l2).append r2, g2, z3, h4.mono (l.trans l2)⟩
end
theorem top_mkE {K : PySem.W.Frag} {mg : Str → Option Value} {h : Heap} {x : Str} {st : Stmt} {ps ks : List Str} {n : Nat} {f T E : Addr} {oc cT : Value} {od an dT : Option Addr} {osl sT sE : Array (Option Value)} {nT nE : Nat} {kV doc pm cdv ct : Value} (X : K.In h) (G : h.Ns mainGlobals mg)
    (a : PySem.W.nsIn K mainGlobals x = some (some (.ref f))) (l : K.lookup f = some ⟨oc, od, .func (PySem.W.fnOf x x (defArgs st) (defBody st) (defScope st) (.ref T) kV doc pm an cdv ct), osl⟩)
    (c : PySem.W.codeIn K cdv x = true) (k : PySem.W.keepIn K (.ref f) = true) (lT : K.lookup T = some ⟨cT, dT, .seq #[.ref E] nT, sT⟩) (lE : K.lookup E = some ⟨.type "tuple", none, .seq #[] nE, sE⟩)
    (b : ∀ (dV kV doc pm : Value) (an : Option Addr) (cdv ct : Value) (us : List Value), us.length = ps.length → ∃ kk, bindArgs (PySem.W.fnOf x x (defArgs st) (defBody st) (defScope st) (.ref T) kV doc pm an cdv ct) ⟨us, []⟩ = seqItems? (.ref T) >>= kk ∧ kk (some #[.ref E]) = pure (ps.zip us))
    (hn : n + 1 = ps.length)
    (b1 : ∀ (dV kV doc pm : Value) (an : Option Addr) (cdv ct : Value) (us : List Value), us.length = n → ∃ kk, bindArgs (PySem.W.fnOf x x (defArgs st) (defBody st) (defScope st) (.ref T) kV doc pm an cdv ct) ⟨us, []⟩ = seqItems? (.ref T) >>= kk ∧ kk (some #[.ref E]) = pure (ps.zip (us ++ [.ref E])))
    (bk : ∀ (dV kV doc pm : Value) (an : Option Addr) (cdv ct : Value) (us ws : List Value), us.length = n → ws.length = ks.length → ∃ kk, bindArgs (PySem.W.fnOf x x (defArgs st) (defBody st) (defScope st) (.ref T) kV doc pm an cdv ct) ⟨us, ks.zip ws⟩ = seqItems? (.ref T) >>= kk ∧ kk (some #[.ref E]) = pure (ps.zip (us ++ ws))) :
    TopE K mg x st ps [.tup []] n ks := by
  refine ⟨f, _, [.ref E], [.ref E], PySem.W.mg_of X G a, ⟨oc, od, _, kV, doc, pm, an, cdv, ct, osl, rfl, l, c⟩, k, fun s us X2 hl => ?_, fun s us X2 hl => ?_, .cons rfl .nil, fun H => .cons (.tup (.inr ⟨_, #[], nE, lE, rfl, rfl, rfl, Nat.zero_le _, .nil⟩) .nil) .nil, ⟨fun s us ws X2 l1 l2 => ?_, fun r1 r2 => Vals.append r1 r2⟩⟩
  · rw [List.append_nil] at hl ⊢
    obtain ⟨kk, e1, e2⟩ := b .none kV doc pm an cdv ct us hl
    refine BindsTo.of_looks fun M => ?_
    rw [e1]
    exact looks_items X2 lT rfl (.of_pure e2)
  · obtain ⟨kk, e1, e2⟩ := b1 .none kV doc pm an cdv ct us (by rw [List.length_append, List.length_singleton] at hl; omega)
    refine BindsTo.of_looks fun M => ?_
    rw [e1]
    exact looks_items X2 lT rfl (.of_pure e2)
  · obtain ⟨kk, e1, e2⟩ := bk .none kV doc pm an cdv ct us ws l1 l2
    refine BindsTo.of_looks fun M => ?_
    rw [e1]
    exact looks_items X2 lT rfl (.of_pure e2)
end Ab

namespace Ab
open PySem PySem.Spec PyProof.Rows L2
def tListVals (td : TE) : TE := fun σ H Q => td σ H fun x H1 => ∃ (d : Addr) (kvs : List (Key × V)), x = .ref d ∧ H1 d = some (.dK kvs) ∧ ∀ p, H1 p = none → Q (.ref p) (L2.upd H1 p (.lst (kvs.map (·.2))))
theorem vals_of {us : List Value} : ∀ {kvs : List (Key × V)} {vs : List (Key × Value)}, KV kvs vs → us = vs.map (·.2) → Vals (kvs.map (·.2)) us
  | _, _, .nil, e => by subst e; exact .nil
  | _, _, .cons h hs, e => by subst e; exact .cons h.2 (vals_of hs rfl)
section
variable {X : Cx} {e : Expr} {td : TE} {p apos cpos pos : Pos}
theorem pe_listVals (hg : Gl X "list") (hm : X.mg "list" = none) (he : PE X e td) (hc : X.calm = true := by rfl) (hbase : attributeBase e "values" X.env (eval e X.env) = eval e X.env := by rfl) (hline : (apos.endLine == cpos.line) = true := by rfl)
    (na : starEach [.Call (.Attribute e "values" apos) [] [] cpos] X.env = (false, eval (.Call (.Attribute e "values" apos) [] [] cpos) X.env) :: starEach [] X.env := by rfl) : PE X (.Call (.Name "list" p) [.Call (.Attribute e "values" apos) [] [] cpos] [] pos) (tListVals td) := by
  refine ⟨fun pins s σ H Q I h => ?_⟩
  refine Call_ (ld_blt I hg hm PyProof.Rows.boot_list ?_)
  refine PyProof.Rows.callWith_type1 (PyProof.Rows.args_cons ?_ na) na rfl
  refine wpAny_Call_method (T := "dict") (id := "dict.values") hbase rfl hline F.plainAttrs_dict F.slot_dict_values F.type_dict_values (thn (he.run pins s σ H _ I h) fun u s1 ⟨x, H1, I1, rx, d, kvs, ex, hd, q⟩ => ?_)
  subst ex
  obtain rfl : u = Value.ref d := rx
  obtain ⟨z, lo, vs, kv, dd⟩ := dk_of I1.hok hd
  obtain ⟨ep, hat⟩ := dd.dictAt
  have hl : kvs.length = vs.length := Paired.length kv
  refine ⟨dd.typeIs, dd.mapOf.noDict, ?_⟩
  show wpAny _ _ (callWith cpos (.builtin "dict.values") [.ref d] [] []) _ X.xe s1
  refine method_meetsIn F.slot_dict_values F.entry_dict_values rfl (PySem.evalArgs_none ⟨rfl, dd.typeIs, F.args_dict_values_1 _, _, meets_dict_values (mixKind X.prog X.w) d lo, ⟨vs, dd⟩, PyProof.Rows.args_nil ?_⟩)
  have I2 : Inv X pins σ H1 { s1 with heap := s1.heap.push { cls := .type "dict_values", data := .fields #[.ref d] } } := I1.kept (t' := s1.toks) fun b ob q => Heap.get?_push_of_some _ q
  refine PySem.W.kdl_call (PySem.W.kdl_values (knd := mixKind X.prog X.w) (r := s1.heap.objs.size) (kvs := vs) (ep := ep)) (I2.ok.hd hc) ⟨⟨_, Heap.get?_push_size _ rfl, rfl, rfl⟩, hat.push _⟩ (n := vs.length) (show vs.length ≤ sizeLine by rw [← hl]; exact z) fun h' tk acc c hkeep hS hacc => ?_
  refine ⟨.ref _, _, I2.laid (t' := tk) (o := .lst (kvs.map (·.2))) hkeep (Nat.le_refl _) ⟨by rw [List.length_map]; exact z, acc.toList, c, vals_of kv ?_, by rw [Array.toArray_toList]; exact hS⟩, rfl, q _ (I2.hok.fresh (Nat.le_refl _))⟩
  exact PySem.W.kdl_vals_eq acc.toList (by rw [Array.length_toList]; exact hacc.1) fun j v hj => hacc.2 j v (by rw [← Array.getElem?_toList]; exact hj)
end
section
variable {X : Cx} {e : Expr} {te : ATE} {p apos cpos pos : Pos}
def aListVals (te : ATE) : ATE := fun t m q => te t m fun x m1 => match x with
  | .ref a => match m1 a with
    | some (.dK kvs) => ∀ p, m1 p = none → q (.ref p) (updA m1 p (.lst (kvs.map (·.2))))
    | _ => False
  | _ => False
theorem simK_vals {K : PySem.W.Frag} {H : Hp} : ∀ {kvs : List (Key × AV)} {ws : List (Key × V)}, SimK K H kvs ws → SimVs K H (kvs.map (·.2)) (ws.map (·.2))
  | _, _, .nil => .nil
  | _, _, .cons h hs => .cons h.2 (simK_vals hs)
theorem ae_listVals (hg : Gl X "list") (hm : X.mg "list" = none) (he : AE X e te) (hc : X.calm = true := by rfl) (hbase : attributeBase e "values" X.env (eval e X.env) = eval e X.env := by rfl) (hline : (apos.endLine == cpos.line) = true := by rfl)
    (na : starEach [.Call (.Attribute e "values" apos) [] [] cpos] X.env = (false, eval (.Call (.Attribute e "values" apos) [] [] cpos) X.env) :: starEach [] X.env := by rfl) : AE X (.Call (.Name "list" p) [.Call (.Attribute e "values" apos) [] [] cpos] [] pos) (aListVals te) :=
  peI (pe_listVals hg hm he hc hbase hline na) fun σ H Q ⟨t, m, q, h1, h2, h3, h4⟩ => by
    refine ⟨t, m, _, h1, h2, h3, fun x m1 v H1 l1 g1 r1 q1 => ?_⟩
    cases x with
    | ref b =>
      cases r1
      cases eb : m1 b with
      | none => simp only [eb] at q1
      | some ob =>
        cases ob with
        | dK kvs =>
          simp only [eb] at q1
          obtain ⟨ws, f1, f2⟩ := g1 b _ eb
          exact ⟨b, ws, rfl, f1, fun p hp => (h4.mono l1).newL g1 (simK_vals f2) hp q1⟩
        | _ => simp only [eb] at q1
    | _ => exact (show False from q1).elim
end
end Ab

namespace Ab
open PySem PySem.Spec PyProof.Rows L2
section
variable {prog : Program} {w : World} {A : Around} {E : Value → Shared → Prop} {s : Shared}
theorem dict_ne_declines (l : Addr) (es : Array DictEntry) (n : Nat) (dd : Option Addr) (sl : Array (Option Value)) (b : Str) (u : Tok) :
    Meets (Builtin.«dict.__ne__» ⟨[.ref l, .str b u], []⟩) (fun _ R s => s.heap.get? l = some { cls := .type "dict", dict := dd, data := .dict es n, slots := sl } ∧ R (.ok (.ret .notImplemented)) s) :=
  .of_wp fun prog w A R s h => by
    obtain ⟨hp, gs, dr, tk, os⟩ := s
    obtain ⟨hl, hq⟩ := h
    have f1 := F.sub_str_dict
    wp_walk using AutoSeq1.wpAny_loadPart' hl, wpAny_load hl
    exact ⟨_, rfl, hq⟩
theorem str_ne_declines (b : Str) (u : Tok) (l : Addr) (es : Array DictEntry) (n : Nat) (dd : Option Addr) (sl : Array (Option Value)) :
    Meets (Builtin.«str.__ne__» ⟨[.str b u, .ref l], []⟩) (fun _ R s => s.heap.get? l = some { cls := .type "dict", dict := dd, data := .dict es n, slots := sl } ∧ R (.ok (.ret .notImplemented)) s) :=
  .of_wp fun prog w A R s h => by
    obtain ⟨hp, gs, dr, tk, os⟩ := s
    obtain ⟨hl, hq⟩ := h
    wp_walk using AutoSeq1.wpAny_loadPart' hl, wpAny_load hl
    exact ⟨_, rfl, hq⟩
theorem ne_dict_str {l : Addr} {o : Obj} {es : Array DictEntry} {n : Nat} {b : Str} {u : Tok} {Q : Value → Shared → Prop} (hl : s.heap.get? l = some o) (hc : o.cls = .type "dict") (hd : o.data = .dict es n) (hu : A.units < cLine) (h : Q (.bool true) s) :
    wpAny (model prog w) A (richCompare .NotEq (.ref l) (.str b u)) Q E s := by
  obtain ⟨cls, dd, data, sl⟩ := o
  simp only at hc hd
  subst hc hd
  exact SeqAt.rc_ne_decline_or (k := false) ⟨_, hl, rfl⟩ (typeIs_str s b u) (by decide) F.sub_str_dict F.slot_dict_ne F.slot_str_ne_refl
    (fun _ hq => call_meets F.slot_dict_ne ⟨_, hl, rfl⟩ F.entry_dict_ne (F.args_dict_ne_2 _ _) (dict_ne_declines l es n dd sl b u) ⟨hl, hq⟩)
    (fun _ hq => call_meets F.slot_str_ne_refl (typeIs_str s b u) F.entry_str_ne (F.args_str_ne_2 _ _) (str_ne_declines b u l es n dd sl) ⟨hl, hq⟩)
    (fun _ hq => wpAny_of_eq (rfl : isSame (.ref l) (.str b u) = pure false) hq) (.inr hu) h
end
section
variable {X : Cx}
def bNeS : AR2 := fun x y m q => match x, y with
  | .ref a, .str _ => match m a with
    | some (.dK _) => q (.bl true) m
    | _ => False
  | x, y => bNe x y m q
theorem ob_neS (hu : X.A.units + 164 < cLine) : OpR X (compareOp .NotEq) (cl2 X.K bNeS) := by
  intro pins s σ H v w u1 u2 Q I r1 r2 ⟨x, y, m, q, s1, s2, g, z, k⟩
  have usual : bNe x y m q → wpAny (model X.prog X.w) X.A (compareOp .NotEq u1 u2) (EP X pins σ Q) X.xe s := fun z => ob_ne hu pins s σ H v w u1 u2 Q I r1 r2 ⟨x, y, m, q, s1, s2, g, z, k⟩
  cases x <;> cases y <;> first | exact usual z | skip
  rename_i a b
  cases s1; cases s2
  cases r1
  obtain ⟨t, rfl⟩ := r2
  have z : (match m a with | some (.dK _) => q (.bl true) m | _ => False) := z
  split at z
  · rename_i kvs e1
    obtain ⟨ws, f1, f2⟩ := g a _ e1
    obtain ⟨_, _, vs, _, o, es, ep, ho, hex, hd, _⟩ := dk_of I.hok f1
    exact ne_dict_str ho hex.1 hd (by omega) ⟨.bl true, H, I, rfl, k _ _ _ _ .refl g (.bl true) z⟩
  · exact z.elim
end
end Ab

namespace Ab
open PySem PySem.Spec PyProof.Rows L2
def asBls : List AV → Option (List Bool)
  | [] => some []
  | .bl b :: r => (asBls r).map (b :: ·)
  | _ => none
theorem asBls_eq : ∀ {xs : List AV} {bs : List Bool}, asBls xs = some bs → xs = bs.map AV.bl
  | [], bs, h => by cases h; rfl
  | x :: xs, bs, h => by
    cases x with
    | bl b =>
      simp only [asBls] at h
      cases e : asBls xs with
      | none => rw [e] at h; cases h
      | some l =>
        rw [e] at h
        cases h
        rw [List.map_cons, asBls_eq e]
    | _ => cases h
theorem asBls_map : ∀ bs : List Bool, asBls (bs.map AV.bl) = some bs
  | [] => rfl
  | b :: bs => by simp only [List.map_cons, asBls, asBls_map bs, Option.map_some]
section
variable {X : Cx}
def bAny : AL := fun xs0 m0 q0 => one (fun x m q => match x with
  | .ref a => match m a with
    | some (.lst xs) => match asBls xs with
      | some bs => q (.bl (bs.any id)) m
      | none => False
    | _ => False
  | _ => False) xs0 m0 q0
def bAll : AL := fun xs0 m0 q0 => one (fun x m q => match x with
  | .ref a => match m a with
    | some (.lst xs) => match asBls xs with
      | some bs => q (.bl (bs.all id)) m
      | none => False
    | _ => False
  | _ => False) xs0 m0 q0
theorem cb_any (hc : X.calm = true) : CallR X (.builtin "any") (clL X.K bAny) := cr_one fun pins s σ H v Q x m q us I rv s1 g z k => by
  cases x with
  | ref a =>
    cases s1
    cases ea : m a with
    | none => simp only [ea] at z
    | some ob =>
      cases ob with
      | lst xs =>
        obtain ⟨ws, f1, f2⟩ := g a _ ea
        cases en : asBls xs with
        | none => simp only [ea, en] at z
        | some bs =>
          simp only [ea, en] at z
          rw [asBls_eq en] at f2
          have e := SimVs.bls f2
          subst e
          exact cr_any hc pins s σ H _ us Q I rv ⟨_, bs, rfl, SqL.of f1, k _ _ _ _ .refl g (.bl _) z⟩
      | _ => simp only [ea] at z
  | _ => exact (show False from z).elim
theorem cb_all (hc : X.calm = true) : CallR X (.builtin "all") (clL X.K bAll) := cr_one fun pins s σ H v Q x m q us I rv s1 g z k => by
  cases x with
  | ref a =>
    cases s1
    cases ea : m a with
    | none => simp only [ea] at z
    | some ob =>
      cases ob with
      | lst xs =>
        obtain ⟨ws, f1, f2⟩ := g a _ ea
        cases en : asBls xs with
        | none => simp only [ea, en] at z
        | some bs =>
          simp only [ea, en] at z
          rw [asBls_eq en] at f2
          have e := SimVs.bls f2
          subst e
          exact cr_all hc pins s σ H _ us Q I rv ⟨_, bs, rfl, SqL.of f1, k _ _ _ _ .refl g (.bl _) z⟩
      | _ => simp only [ea] at z
  | _ => exact (show False from z).elim
end
end Ab

namespace Ab
open PySem PySem.Spec PyProof.Rows L2
section
variable {elt t0 i0 t1 i1 : Expr} {f0 f1 : List Expr} {scope : Scope} {pos : Pos}
abbrev lc2X (elt t0 i0 t1 i1 : Expr) (f0 f1 : List Expr) (scope : Scope) (pos : Pos) : Expr := .ListComp elt [⟨t0, i0, f0, 0⟩, ⟨t1, i1, f1, 0⟩] scope pos
theorem lc2_turn0 (it acc : Value) (env : Env) : compTurn (lc2X elt t0 i0 t1 i1 f0 f1 scope pos) 0 it acc env = (do
    standAt i0.pos
    match ← pyNext it with
    | none => pure (.done .next)
    | some v =>
      letOwnedTupleGo t0 it v
      assign t0 env v
      let ok ← testAll f0 env
      if ok then
        let x ← eval i1 env
        standAt i1.pos
        let x ← foldedSetIterable i1 env x
        let _ ← runOwn (.compStart (lc2X elt t0 i0 t1 i1 f0 f1 scope pos) 1 (← holding [x] (pyIter x)) acc env) env
      again (.compLoop (lc2X elt t0 i0 t1 i1 f0 f1 scope pos) 0 it acc env)) := by rfl
theorem lc2_turn1 (it acc : Value) (env : Env) : compTurn (lc2X elt t0 i0 t1 i1 f0 f1 scope pos) 1 it acc env = (do
    standAt i1.pos
    match ← pyNext it with
    | none => pure (.done .next)
    | some v =>
      letOwnedTupleGo t1 it v
      assign t1 env v
      let ok ← testAll f1 env
      if ok then
        (do let _ ← call (.builtin "list.append") [acc, ← eval elt env])
      again (.compLoop (lc2X elt t0 i0 t1 i1 f0 f1 scope pos) 1 it acc env)) := by rfl
variable {prog : Program} {w : World} {A : Around} {R : Result → Shared → Prop} {s : Shared} {it acc : Value} {env : Env}
theorem lc2_loop0 (hs : ∀ x, foldedSetIterable i1 env x = pure x) (I : Nat → Shared → Prop)
    (turn : ∀ n s, I n s → wpAny (model prog w) A (pyNext it) (fun r s1 => match r with
      | none => R (.ok .next) s1
      | some v => wpAny (model prog w) A (letOwnedTupleGo t0 it v) (fun _ s2 => wpAny (model prog w) A (assign t0 env v) (fun _ s3 => wpAny (model prog w) A (testAll f0 env) (fun ok s4 =>
          if ok = true then wpAny (model prog w) A (eval i1 env) (fun x s5 => wpAny (model prog w) A (pyIter x) (fun j s6 =>
            codeAny (model prog w) A (.compStart (lc2X elt t0 i0 t1 i1 f0 f1 scope pos) 1 j acc env) (fun r s' => match r with
              | .ok _ => ∃ m, m < n ∧ I m s'
              | .error _ => False) s6) (notedBy (model prog w) A env fun e s' => R (.error e) s') s5) (notedBy (model prog w) A env fun e s' => R (.error e) s') s4
          else ∃ m, m < n ∧ I m s4) (notedBy (model prog w) A env fun e s' => R (.error e) s') s3) (notedBy (model prog w) A env fun e s' => R (.error e) s') s2) (notedBy (model prog w) A env fun e s' => R (.error e) s') s1) (notedBy (model prog w) A env fun e s' => R (.error e) s') s)
    (n : Nat) (h : I n s) : codeAny (model prog w) A (.compLoop (lc2X elt t0 i0 t1 i1 f0 f1 scope pos) 0 it acc env) R s := by
  refine codeAny_loop rfl I (fun n s hI => ?_) n h
  show wpAny _ A ((compTurn (lc2X elt t0 i0 t1 i1 f0 f1 scope pos) 0 it acc env).onRaise (fun x => do noteFrame x env; theTreesLotGoes x)) _ _ s
  refine wpAny_noted ?_
  rw [lc2_turn0]
  refine wpAny_bind (wpAny_standAt (wpAny_bind (wpAny_mono (turn n s hI) (fun r s1 h1 => ?_) fun _ _ z => z)))
  cases r with
  | none => exact wpAny_pure h1
  | some v =>
    refine wpAny_bind (wpAny_mono h1 (fun _ s2 h2 => wpAny_bind (wpAny_mono h2 (fun _ s3 h3 => wpAny_bind (wpAny_mono h3 (fun ok s4 h4 => ?_) fun _ _ z => z)) fun _ _ z => z)) fun _ _ z => z)
    cases ok with
    | false => exact wpAny_pure ⟨rfl, h4⟩
    | true =>
      refine wpAny_bind (wpAny_mono h4 (fun x s5 h5 => wpAny_bind (wpAny_standAt (wpAny_bind (wpAny_of_eq (hs x) (wpAny_bind (wpAny_holding (wpAny_mono h5 (fun j s6 h6 => ?_) fun _ _ z => z))))))) fun _ _ z => z)
      refine wpAny_bind (wpAny_runOwn ?_)
      rw [Around.mark_none]
      refine codeAny_mono h6 fun r s' hr => ?_
      cases r with
      | error e => exact hr.elim
      | ok f => first | exact wpAny_pure ⟨rfl, hr⟩ | exact wpAny_bind (wpAny_pure (wpAny_pure ⟨rfl, hr⟩))
theorem lc2_loop1 (I : Nat → Shared → Prop)
    (turn : ∀ n s, I n s → wpAny (model prog w) A (pyNext it) (fun r s1 => match r with
      | none => R (.ok .next) s1
      | some v => wpAny (model prog w) A (letOwnedTupleGo t1 it v) (fun _ s2 => wpAny (model prog w) A (assign t1 env v) (fun _ s3 => wpAny (model prog w) A (testAll f1 env) (fun ok s4 =>
          if ok = true then wpAny (model prog w) A (eval elt env) (fun a s5 => wpAny (model prog w) A (call (.builtin "list.append") [acc, a]) (fun _ s7 => ∃ m, m < n ∧ I m s7) (notedBy (model prog w) A env fun e s' => R (.error e) s') s5) (notedBy (model prog w) A env fun e s' => R (.error e) s') s4
          else ∃ m, m < n ∧ I m s4) (notedBy (model prog w) A env fun e s' => R (.error e) s') s3) (notedBy (model prog w) A env fun e s' => R (.error e) s') s2) (notedBy (model prog w) A env fun e s' => R (.error e) s') s1) (notedBy (model prog w) A env fun e s' => R (.error e) s') s)
    (n : Nat) (h : I n s) : codeAny (model prog w) A (.compLoop (lc2X elt t0 i0 t1 i1 f0 f1 scope pos) 1 it acc env) R s := by
  refine codeAny_loop rfl I (fun n s hI => ?_) n h
  show wpAny _ A ((compTurn (lc2X elt t0 i0 t1 i1 f0 f1 scope pos) 1 it acc env).onRaise (fun x => do noteFrame x env; theTreesLotGoes x)) _ _ s
  refine wpAny_noted ?_
  rw [lc2_turn1]
  refine wpAny_bind (wpAny_standAt (wpAny_bind (wpAny_mono (turn n s hI) (fun r s1 h1 => ?_) fun _ _ z => z)))
  cases r with
  | none => exact wpAny_pure h1
  | some v =>
    refine wpAny_bind (wpAny_mono h1 (fun _ s2 h2 => wpAny_bind (wpAny_mono h2 (fun _ s3 h3 => wpAny_bind (wpAny_mono h3 (fun ok s4 h4 => ?_) fun _ _ z => z)) fun _ _ z => z)) fun _ _ z => z)
    cases ok with
    | false => exact wpAny_pure ⟨rfl, h4⟩
    | true => exact wpAny_bind (wpAny_bind (wpAny_mono h4 (fun x s5 h5 => wpAny_bind (wpAny_mono h5 (fun _ s6 h6 => wpAny_pure (wpAny_pure ⟨rfl, h6⟩)) fun _ _ z => z)) fun _ _ z => z))
theorem lc2_start1 (h0 : codeAny (model prog w) A (.compLoop (lc2X elt t0 i0 t1 i1 f0 f1 scope pos) 1 it acc env) R s)
    (h : wpAny (model prog w) A (pyIter it) (fun j s' => codeAny (model prog w) A (.compLoop (lc2X elt t0 i0 t1 i1 f0 f1 scope pos) 1 j acc env) R s') (notedBy (model prog w) A env fun x s' => R (.error x) s') s) :
    codeAny (model prog w) A (.compStart (lc2X elt t0 i0 t1 i1 f0 f1 scope pos) 1 it acc env) R s := by
  refine codeAny_of_tree ?_
  show wpAny _ _ ((compStart (lc2X elt t0 i0 t1 i1 f0 f1 scope pos) 1 it acc env).onRaise (fun x => do noteFrame x env; standAt theWindowsPlace)) _ _ s
  refine wpAny_notedAt ?_
  unfold compStart
  show wpAny _ _ (ask >>= _) _ _ s
  refine wpAny_bind (wpAny_askSetting (wpAny_ite ?_))
  split
  · first | exact wpAny_bind (wpAny_pure (wpAny_pure (And.intro rfl h0))) | exact wpAny_pure (And.intro rfl h0)
  · first
      | exact wpAny_bind (wpAny_rule (wpAny_bind (wpAny_standAt (wpAny_bind (wpAny_mono h (fun j s' z => wpAny_pure (And.intro rfl z)) fun _ _ x => x)))))
      | (refine wpAny_bind (wpAny_rule ?_); show wpAny _ _ (standAt i1.pos >>= _) _ _ s; exact wpAny_bind (wpAny_standAt (wpAny_bind (wpAny_mono h (fun j s' z => wpAny_pure (And.intro rfl z)) fun _ _ x => x))))
end
def tLc2 (wi : TI) (g : TG) (tt : TT) (wj : TI) (h : TG) (tu : TT) (te : TE) (vs us : List Nat) : TE := fun σ H Q => wi σ H fun J H1 => ∀ D, H1 D = none → ∃ W : Nat → Nat → Hp → Prop, (∃ m, W 0 m (L2.upd H1 D (.lst []))) ∧ ∀ i m H, W i m H →
  (J.stop i H ∧ Q (.ref D) H) ∨ (J.go i H ∧ ∃ N : Hp → Prop, (∀ H', N H' → ∃ m', m' < m ∧ W (i + 1) m' H') ∧ ∀ x H', J.yld i H x H' → g x (L2.wipe σ vs) H' fun σ2 H2 => L2.wipe σ2 vs = L2.wipe σ vs ∧ tt σ2 H2 fun b H3 =>
    if b = true then wj σ2 H3 fun J2 H4 => ∃ U : Nat → Nat → Hp → Prop, (∃ m, U 0 m H4) ∧ ∀ j k H, U j k H →
      (J2.stop j H ∧ N H) ∨ (J2.go j H ∧ ∃ M : Hp → Prop, (∀ H', M H' → ∃ k', k' < k ∧ U (j + 1) k' H') ∧ ∀ x H', J2.yld j H x H' → h x (L2.wipe σ2 us) H' fun σ3 H5 => L2.wipe σ3 us = L2.wipe σ2 us ∧ tu σ3 H5 fun b H6 =>
        if b = true then te σ3 H6 fun y H7 => ∃ acc, H7 D = some (.lst acc) ∧ acc.length < sizeLine ∧ M (L2.upd H7 D (.lst (acc ++ [y]))) else M H6)
    else N H3)
section
variable {X : Cx} {elt tg iter th jter : Expr} {fs gs : List Expr} {scope : Scope} {own : List (Str × Nat)} {us : List Nat} {pos : Pos} {wi wj : TI} {g h : TG} {tt tu : TT} {te : TE}
structure Lc2 (X : Cx) (elt tg iter th jter : Expr) (fs gs : List Expr) (scope : Scope) (own : List (Str × Nat)) (us : List Nat) (wi wj : TI) (g h : TG) (tt tu : TT) (te : TE) : Prop where
  calm : X.calm = true
  nd : X.N.Nodup
  i : PI X tg iter wi
  ok : BlkOk X.N X.env.scope scope own
  sub : ∀ i ∈ us, i ∈ own.map (·.2)
  g : ∀ (s : Shared) (H : Hp) (C : Addr) (cl : List (Str × Addr)) (fp : List Addr), PG (X.blk s H scope (compEnvC scope cl C X.env) fp) tg g
  t : ∀ (s : Shared) (H : Hp) (C : Addr) (cl : List (Str × Addr)) (fp : List Addr), PTs (X.blk s H scope (compEnvC scope cl C X.env) fp) fs tt
  v : ∀ (s : Shared) (H : Hp) (C : Addr) (cl : List (Str × Addr)) (fp : List Addr), PE (X.blk s H scope (compEnvC scope cl C X.env) fp) elt te
  fold : ∀ x, foldedSetIterable iter X.env x = pure x
  j : ∀ (s : Shared) (H : Hp) (C : Addr) (cl : List (Str × Addr)) (fp : List Addr), PI (X.blk s H scope (compEnvC scope cl C X.env) fp) th jter wj
  h : ∀ (s : Shared) (H : Hp) (C : Addr) (cl : List (Str × Addr)) (fp : List Addr), PG (X.blk s H scope (compEnvC scope cl C X.env) fp) th h
  u : ∀ (s : Shared) (H : Hp) (C : Addr) (cl : List (Str × Addr)) (fp : List Addr), PTs (X.blk s H scope (compEnvC scope cl C X.env) fp) gs tu
  fold2 : ∀ env x, foldedSetIterable jter env x = pure x
theorem lc2_main (Z : Lc2 X elt tg iter th jter fs gs scope own us wi wj g h tt tu te) {pins : List (Addr × Obj)} {s : Shared} {σ : L2.St} {H : Hp} {Q : VK} {p2 : Pos} {use : Option (Value → Sem Unit)} {Qf : Value → Shared → Prop} (I : Inv X pins σ H s)
    (want : tLc2 wi g tt wj h tu te (own.map (·.2)) us σ H Q)
    (hRR : ∀ D C s' m H', Inv X pins σ H' s' → Q (.ref D) H' → s'.heap.Ns C m → FpOk X pins H' C → compPost (model X.prog X.w) X.A X.xe use Qf (.ref D) C (.ok .next) s') :
    wpAny (model X.prog X.w) X.A (comprehension (lc2X elt tg iter th jter fs gs scope pos) scope X.env p2 (newList []) false (eval iter X.env) use) Qf X.xe s := by
  have ok := Z.ok
  have hc := Z.calm
  have hfree : ∀ y ∈ scope.names, y.2 = .free → ∃ c, X.env.cells.lookup y.1 = some c := fun y hy e => (ok.free y hy e).elim (fun k => I.ok.has _ (.inl k)) fun k => I.ok.has _ (.inr k)
  refine wpAny_comprehension_free (use := use) rfl Z.fold (closure_ok hfree) ok.kind (fun y hy e => by rw [ok.uniq y hy, e]) (thn (Z.i.run pins s σ H _ I want) fun xv s1 hx => thn hx fun itv s2 h2 => ?_)
  obtain ⟨it, fp, tn, J, H2, e, I2, T, st2, f2, q⟩ := h2
  subst e
  refine wpAny_newObj_type (newEnv_comp ?_) (by show 0 ≤ sizeLine; decide)
  generalize hD : s2.heap.objs.size = D
  have hDn : H2 D = none := I2.hok.fresh (Nat.le_of_eq hD)
  obtain ⟨W, ⟨m0, w0⟩, turn⟩ := q D hDn
  generalize hs3 : ({ s2 with heap := s2.heap.push { cls := .type "list", data := .seq ([] : List Value).toArray } } : Shared) = s3
  have h3 : s3.heap = s2.heap.push { cls := .type "list", data := .seq ([] : List Value).toArray } := by rw [← hs3]
  have I3 : Inv X pins σ (L2.upd H2 D (.lst [])) s3 := by
    rw [← hs3]
    refine I2.laid (t' := s2.toks) (fun b o e => Heap.get?_push_of_some _ e) (Nat.le_of_eq hD) ⟨Nat.zero_le _, [], 0, .nil, ?_⟩
    rw [← hD]
    exact Heap.get?_push_size _ rfl
  have low : ∀ b ∈ fp, b < s2.heap.objs.size := fun b hb => let ⟨o, e, _⟩ := T.obj _ _ st2 b hb; Heap.lt_size e
  have f3 : ∀ b ∈ fp, FpOk X pins (L2.upd H2 D (.lst [])) b ∧ b < s3.heap.objs.size := fun b hb => by
    have hlt := low b hb
    exact ⟨⟨by rw [upd_ne (by rw [← hD]; exact Nat.ne_of_lt hlt)]; exact (f2 b hb).1, (f2 b hb).2⟩, by rw [h3, Heap.size_push]; exact Nat.lt_succ_of_lt hlt⟩
  have st3 : tn 0 s3.heap := T.keep _ _ _ st2 fun b _ o e => by rw [h3]; exact Heap.get?_push_of_some _ e
  have I4 := block_start I3 ok Z.nd f3
  have pg := Z.g s3 (L2.upd H2 D (.lst [])) s3.heap.objs.size (cellsFrom (s3.heap.objs.size + 1) scope.names (cloFrom X.env.cells scope.names [])) fp
  have pt := Z.t s3 (L2.upd H2 D (.lst [])) s3.heap.objs.size (cellsFrom (s3.heap.objs.size + 1) scope.names (cloFrom X.env.cells scope.names [])) fp
  have pv := Z.v s3 (L2.upd H2 D (.lst [])) s3.heap.objs.size (cellsFrom (s3.heap.objs.size + 1) scope.names (cloFrom X.env.cells scope.names [])) fp
  have pj := Z.j s3 (L2.upd H2 D (.lst [])) s3.heap.objs.size (cellsFrom (s3.heap.objs.size + 1) scope.names (cloFrom X.env.cells scope.names [])) fp
  have ph := Z.h s3 (L2.upd H2 D (.lst [])) s3.heap.objs.size (cellsFrom (s3.heap.objs.size + 1) scope.names (cloFrom X.env.cells scope.names [])) fp
  have pu := Z.u s3 (L2.upd H2 D (.lst [])) s3.heap.objs.size (cellsFrom (s3.heap.objs.size + 1) scope.names (cloFrom X.env.cells scope.names [])) fp
  show codeAny _ _ (.compStart (lc2X elt tg iter th jter fs gs scope pos) 0 (.ref it) (.ref D) (compEnvC scope (cellsFrom (s3.heap.objs.size + 1) scope.names (cloFrom X.env.cells scope.names [])) s3.heap.objs.size X.env)) (compPost (model X.prog X.w) X.A X.xe use Qf (.ref D) s3.heap.objs.size) { s3 with heap := pushCells (s3.heap.push { cls := .type "dict", data := .dict #[] }) scope.names }
  have nfp : ∀ b ∈ fp, (L2.upd H2 D (.lst [])) b = none := fun b hb => (f3 b hb).1.1
  generalize hce : compEnvC scope (cellsFrom (s3.heap.objs.size + 1) scope.names (cloFrom X.env.cells scope.names [])) s3.heap.objs.size X.env = ce at I4 pg pt pv pj ph pu ⊢
  have cL : ce.locals = s3.heap.objs.size := by subst hce; rfl
  generalize hH3 : L2.upd H2 D (.lst []) = H3 at I3 I4 pg pt pv pj ph pu w0 nfp f3
  generalize hs4 : ({ s3 with heap := pushCells (s3.heap.push { cls := .type "dict", data := .dict #[] }) scope.names } : Shared) = s4 at I4 ⊢
  have st4 : tn 0 s4.heap := T.keep _ _ _ st3 fun b _ o e => by rw [← hs4]; exact pushCells_keeps _ _ _ _ (Heap.get?_push_of_some _ e)
  have stat : ∀ {σ' : L2.St} {H' : Hp} {s' : Shared}, Inv (X.blk s3 H3 scope ce fp) [] σ' H' s' → (∀ b ∈ fp, H' b = none) → ∀ b ∈ fp, FpOk (X.blk s3 H3 scope ce fp) [] H' b := fun {σ' H' s'} I' hn b hb => ⟨hn b hb, (I'.ok.exf b hb).1, I'.ok.exfs b hb, .inl hb, fun x c e => (I'.ok.exf b hb).2 x c e, fun p hp => absurd (show p ∈ ([] : List (Addr × Obj)) ++ [] from hp) (by simp)⟩
  have wl : ∀ (τ : L2.St) (l : List Nat), (L2.wipe τ l).length = τ.length := fun τ l => wipe_length τ l
  have loop : codeAny (model X.prog X.w) X.A (.compLoop (lc2X elt tg iter th jter fs gs scope pos) 0 (.ref it) (.ref D) ce) (compPost (model X.prog X.w) X.A X.xe use Qf (.ref D) s3.heap.objs.size) s4 := by
    refine lc2_loop0 (Z.fold2 ce) (fun n s' => ∃ i H', Inv (X.blk s3 H3 scope ce fp) [] (L2.wipe σ (own.map (·.2))) H' s' ∧ tn i s'.heap ∧ (∀ b ∈ fp, H' b = none) ∧ W i n H') ?_ m0 ⟨0, H3, I4, st4, nfp, w0⟩
    rintro n s5 ⟨i, H5, I5, st5, n5, w5⟩
    rcases turn i n H5 w5 with ⟨stop, qq⟩ | ⟨go, N, hN, step⟩
    · refine thnF (T.done (X.blk s3 H3 scope ce fp) rfl rfl rfl hc i [] s5 _ H5 (fun _ _ => False) I5 (stat I5 n5) st5 stop) fun r s6 ⟨hr, I6⟩ => ?_
      subst hr
      have I7 : Inv X pins σ H5 s6 := I3.call' (ch := fp) I6.os I6.base I6.hok I6.bare fun b hb => let ⟨z, _⟩ := f3 b hb; ⟨z.2.2.2.1, z.2.1, z.2.2.2.2.1, z.2.2.2.2.2⟩
      have nC : H5 s3.heap.objs.size = none := cL ▸ (show H5 ce.locals = none from I6.free)
      obtain ⟨m, hn, _⟩ := I6.loc
      exact hRR D s3.heap.objs.size s6 m H5 I7 qq (cL ▸ (show s6.heap.Ns ce.locals m from hn)) (I3.fpOk (Nat.le_refl _) nC)
    · refine thnF (T.item (X.blk s3 H3 scope ce fp) rfl rfl rfl hc i [] s5 _ H5 (fun _ _ => False) I5 (stat I5 n5) st5 go) fun r s6 ⟨u, hr, h6⟩ => ?_
      subst hr
      refine thnF h6 fun _ s7 ⟨x, H7, I7, r7, y7, st7, n7⟩ => ?_
      refine thnF (pg.run _ s7 _ H7 x u _ (I7.pinned (stat I7 n7) (T.obj _ _ st7)) r7 (step x H7 y7)) fun _ s8 ⟨σ8, H8, I8, hw8, q8⟩ => ?_
      refine thnF (show wpAny _ _ (testAll fs ce) _ _ s8 from pt.run _ s8 σ8 H8 _ I8 q8) fun b s9 ⟨H9, I9, q9⟩ => ?_
      have fin : ∀ {σ9 : L2.St} {s' : Shared} {H' : Hp}, Inv (X.blk s3 H3 scope ce fp) ([] ++ pinsAt fp s7.heap) σ9 H' s' → (L2.wipe σ (own.map (·.2))).length = σ9.length → (∀ (j : Nat) v, (L2.wipe σ (own.map (·.2)))[j]? = some (some v) → σ9[j]? = some (some v)) → N H' →
          ∃ m, m < n ∧ ∃ i H', Inv (X.blk s3 H3 scope ce fp) [] (L2.wipe σ (own.map (·.2))) H' s' ∧ tn i s'.heap ∧ (∀ b ∈ fp, H' b = none) ∧ W i m H' := fun {σ9 s' H'} I' hl hk nx => by
        obtain ⟨m', hm, w'⟩ := hN H' nx
        have pin : ∀ b ∈ fp, ∀ o, s7.heap.get? b = some o → s'.heap.get? b = some o ∧ H' b = none := fun b hb o e => let z := I'.pin (b, o) (List.mem_append_right _ (List.mem_append_right _ (mem_pinsAt hb e))); ⟨z.1, z.2.1⟩
        exact ⟨m', hm, i + 1, H', (I'.unpinned (pins := [])).weak hl hk, T.keep _ _ _ st7 fun b hb o e => (pin b hb o e).1, fun b hb => let ⟨o, e, _⟩ := T.obj _ _ st7 b hb; (pin b hb o e).2, w'⟩
      have hl8 : (L2.wipe σ (own.map (·.2))).length = σ8.length := hw8 ▸ wl σ8 _
      have hk8 : ∀ (j : Nat) v, (L2.wipe σ (own.map (·.2)))[j]? = some (some v) → σ8[j]? = some (some v) := fun j v e => (wipe_some (hw8.symm ▸ e)).1
      have hk9 : ∀ (j : Nat) v, (L2.wipe σ (own.map (·.2)))[j]? = some (some v) → (L2.wipe σ8 us)[j]? = some (some v) := fun j v e => by
        obtain ⟨e1, e2⟩ := wipe_some (hw8.symm ▸ e)
        rw [wipe_out fun z => e2 (Z.sub j z), e1]
      cases b with
      | false =>
        simp only [Bool.false_eq_true, if_false] at q9 ⊢; exact fin I9 hl8 hk8 q9
      | true =>
        simp only [if_true] at q9 ⊢; refine thnF (pj.run _ s9 σ8 H9 _ I9 q9) fun xv s10 hx => thnF hx fun itv s11 h11 => ?_
        obtain ⟨jt, gp, un, J2, H11, e1, I11, T1, st11, f11, U, ⟨m1, w1⟩, turn1⟩ := h11
        subst e1
        have stat1 : ∀ {H' : Hp}, (∀ b ∈ gp, H' b = none) → ∀ b ∈ gp, FpOk (X.blk s3 H3 scope ce fp) ([] ++ pinsAt fp s7.heap) H' b := fun hn b hb => ⟨hn b hb, (f11 b hb).2⟩
        have loop1 : codeAny (model X.prog X.w) X.A (.compLoop (lc2X elt tg iter th jter fs gs scope pos) 1 (.ref jt) (.ref D) ce) (fun r s' => match r with
            | .ok _ => ∃ m, m < n ∧ ∃ i H', Inv (X.blk s3 H3 scope ce fp) [] (L2.wipe σ (own.map (·.2))) H' s' ∧ tn i s'.heap ∧ (∀ b ∈ fp, H' b = none) ∧ W i m H'
            | .error _ => False) s11 := by
          refine lc2_loop1 (fun k s' => ∃ j H', Inv (X.blk s3 H3 scope ce fp) ([] ++ pinsAt fp s7.heap) (L2.wipe σ8 us) H' s' ∧ un j s'.heap ∧ (∀ b ∈ gp, H' b = none) ∧ U j k H') ?_ m1 ⟨0, H11, I11.weak (wl _ _) (fun j v e => (wipe_some e).1), st11, fun b hb => (f11 b hb).1, w1⟩
          rintro k s12 ⟨j, H12, I12, st12, n12, w12⟩
          rcases turn1 j k H12 w12 with ⟨stop1, nx1⟩ | ⟨go1, M, hM, step1⟩
          · refine thnF (T1.done (X.blk s3 H3 scope ce fp) rfl rfl rfl hc j _ s12 (L2.wipe σ8 us) H12 (fun _ _ => False) I12 (stat1 n12) st12 stop1) fun r s13 ⟨hr, I13⟩ => ?_
            subst hr
            exact fin I13 (hl8.trans (wl σ8 us).symm) hk9 nx1
          · refine thnF (T1.item (X.blk s3 H3 scope ce fp) rfl rfl rfl hc j _ s12 (L2.wipe σ8 us) H12 (fun _ _ => False) I12 (stat1 n12) st12 go1) fun r s13 ⟨u1, hr, h13⟩ => ?_
            subst hr
            refine thnF h13 fun _ s14 ⟨x1, H14, I14, r14, y14, st14, n14⟩ => ?_
            refine thnF (ph.run _ s14 (L2.wipe σ8 us) H14 x1 u1 _ (I14.pinned (stat1 n14) (T1.obj _ _ st14)) r14 (step1 x1 H14 y14)) fun _ s15 ⟨σ15, H15, I15, hw15, q15⟩ => ?_
            refine thnF (show wpAny _ _ (testAll gs ce) _ _ s15 from pu.run _ s15 σ15 H15 _ I15 q15) fun b1 s16 ⟨H16, I16, q16⟩ => ?_
            have fin1 : ∀ {s' : Shared} {H' : Hp}, Inv (X.blk s3 H3 scope ce fp) (([] ++ pinsAt fp s7.heap) ++ pinsAt gp s14.heap) σ15 H' s' → M H' → ∃ m, m < k ∧ ∃ j H', Inv (X.blk s3 H3 scope ce fp) ([] ++ pinsAt fp s7.heap) (L2.wipe σ8 us) H' s' ∧ un j s'.heap ∧ (∀ b ∈ gp, H' b = none) ∧ U j m H' := fun {s' H'} I' nx => by
              obtain ⟨m', hm, w'⟩ := hM H' nx
              have pin : ∀ b ∈ gp, ∀ o, s14.heap.get? b = some o → s'.heap.get? b = some o ∧ H' b = none := fun b hb o e => let z := I'.pin (b, o) (List.mem_append_right _ (List.mem_append_right _ (mem_pinsAt hb e))); ⟨z.1, z.2.1⟩
              exact ⟨m', hm, j + 1, H', I'.unpinned.weak (hw15 ▸ wl σ15 us) (fun j v e => (wipe_some (hw15.symm ▸ e)).1), T1.keep _ _ _ st14 fun b hb o e => (pin b hb o e).1, fun b hb => let ⟨o, e, _⟩ := T1.obj _ _ st14 b hb; (pin b hb o e).2, w'⟩
            cases b1 with
            | false =>
              simp only [Bool.false_eq_true, if_false] at q16 ⊢; exact fin1 I16 q16
            | true =>
              simp only [if_true] at q16 ⊢; refine thnF (pv.run _ s16 σ15 H16 _ I16 q16) fun z s17 ⟨yv, H17, I17, r17, acc, hD17, hz17, nx⟩ => ?_
              exact app_ok (X := X.blk s3 H3 scope ce fp) I17 hD17 hz17 r17 fun s19 I19 => fin1 I19 nx
        exact lc2_start1 loop1 (T1.self X.A 0 _ _ _ st11 loop1)
  exact codeAny_compStart_list loop (T.self X.A 0 _ _ _ st4 loop)
end
section
variable {X : Cx} {pos : Pos}
def lc2L (K : PySem.W.Frag) (g : ATG) (tt : ATT) (wj : ATI) (h : ATG) (tu : ATT) (te : ATE) (us : List Nat) (G : AHp → Prop) (D : Addr) (q : AK) (a : ASt) : List AV → AHp → Prop
  | [], m => G m ∧ q (.ref D) m
  | x :: xs, m => G m ∧ g x a m fun a2 m2 => tt a2 m2 fun b m3 => if b = true then wj a2 m3 fun ys G2 m4 => lcL K h tu te G2 D (fun _ m5 => Fg K m5 fun m6 => lc2L K g tt wj h tu te us G D q a xs m6) (wipeA a2 us) ys m4
    else Fg K m3 fun m6 => lc2L K g tt wj h tu te us G D q a xs m6
def aLc2 (K : PySem.W.Frag) (w : ATI) (g : ATG) (tt : ATT) (wj : ATI) (h : ATG) (tu : ATT) (te : ATE) (vs us : List Nat) : ATE := fun a m q => w a m fun xs G m1 => ∀ D, m1 D = none → lc2L K g tt wj h tu te us G D q (wipeA a vs) xs (updA m1 D (.lst []))
theorem lcI_of {K : PySem.W.Frag} {h : ATG} {tu : ATT} {te : ATE} {sl us : List Nat} (hsl : ∀ i ∈ sl, i ∈ us) {a2 : ASt} {σ2 : L2.St} {H4 : Hp} {ys : List AV} {G : AHp → Prop} {m4 : AHp} {J : It} {D : Addr} {q : AK} {N : Hp → Prop} (s : SimS K H4 a2 σ2) (g4 : SimH K H4 m4) (S : ItS K H4 ys G J)
    (run : lcL K h tu te G D q (wipeA a2 us) ys m4) (fin : ∀ m H', Le K H4 H' → SimH K H' m → q (.ref D) m → N H') :
    ∃ U : Nat → Nat → Hp → Prop, (∃ m, U 0 m H4) ∧ ∀ j k H, U j k H → (J.stop j H ∧ N H) ∨ (J.go j H ∧ ∃ M : Hp → Prop, (∀ H', M H' → ∃ k', k' < k ∧ U (j + 1) k' H') ∧ ∀ x H', J.yld j H x H' → clG K sl h x (L2.wipe σ2 us) H' fun σ3 H5 => L2.wipe σ3 us = L2.wipe σ2 us ∧ clT K tu σ3 H5 fun b H6 =>
      if b = true then clE K te σ3 H6 fun y H7 => ∃ acc, H7 D = some (.lst acc) ∧ acc.length < sizeLine ∧ M (L2.upd H7 D (.lst (acc ++ [y]))) else M H6) := by
  refine ⟨fun i k H' => k = ys.length - i ∧ i ≤ ys.length ∧ ∃ m, Le K H4 H' ∧ SimH K H' m ∧ lcL K h tu te G D q (wipeA a2 us) (ys.drop i) m, ⟨ys.length, by simp, Nat.zero_le _, _, .refl, g4, run⟩, ?_⟩
  rintro i k H2 ⟨rfl, hi, m2, l2, g2, q2⟩
  have s2 : SimS K H2 (wipeA a2 us) (L2.wipe σ2 us) := (s.wiped us).mono l2
  by_cases hlt : i < ys.length
  · rw [List.drop_eq_getElem_cons hlt] at q2
    obtain ⟨gm, q2⟩ := q2
    refine .inr ⟨S.go i H2 m2 l2 g2 gm hlt, fun H' => ∃ m, Le K H4 H' ∧ SimH K H' m ∧ lcL K h tu te G D q (wipeA a2 us) (ys.drop (i + 1)) m, fun H' z => ⟨ys.length - (i + 1), by omega, rfl, hlt, z⟩, fun v H3 y => ?_⟩
    obtain ⟨l3, g3, r3⟩ := S.yld i H2 m2 v H3 ys[i] l2 g2 gm (List.getElem?_eq_getElem hlt) y
    refine ⟨ys[i], wipeA a2 us, m2, _, r3, s2.mono l3, g3, q2, fun t4 m4 σ4 H4 l4 s4 g4 z1 z2 q4 => ⟨wipe_same hsl z1 z2, t4, m4, _, s4, g4, q4, fun b m5 H5 l5 g5 q5 => ?_⟩⟩
    cases b with
    | false =>
      rw [if_neg Bool.false_ne_true]
      have q5 := (if_neg Bool.false_ne_true) ▸ q5
      obtain ⟨m6, z, q5⟩ := q5
      exact ⟨m6, l2.trans (l3.trans (l4.trans l5)), z _ g5, q5⟩
    | true =>
      rw [if_pos rfl]
      have q5 := (if_pos rfl) ▸ q5
      refine ⟨t4, m5, _, s4.mono l5, g5, q5, fun y m6 v6 H6 l6 g6 r6 ⟨m7, z7, q7⟩ => ?_⟩
      have g7 := z7 _ g6
      cases e7 : m7 D with
      | none => simp only [e7] at q7
      | some o =>
        cases o with
        | lst acc =>
          simp only [e7] at q7
          obtain ⟨ws, f1, f2⟩ := g7 D _ e7
          have hl : acc.length = ws.length := f2.length
          have l8 : Le K H6 (L2.upd H6 D (.lst (ws ++ [v6]))) := .lst f1
          exact ⟨ws, f1, by rw [← hl]; exact q7.1, _, l2.trans (l3.trans (l4.trans (l5.trans (l6.trans l8)))), g7.lstPut e7 f1 (f2.append (.cons r6 .nil)), q7.2⟩
        | _ => simp only [e7] at q7
  · have hi' : ys.length ≤ i := Nat.le_of_not_lt hlt
    rw [List.drop_eq_nil_of_le hi'] at q2
    exact .inl ⟨S.stop i H2 m2 l2 g2 q2.1 hi', fin m2 H2 l2 g2 q2.2⟩
theorem lc2_of {K : PySem.W.Frag} {w wj : ATI} {g h : ATG} {tt tu : ATT} {te : ATE} {sl sj vs us : List Nat} (hsl : ∀ i ∈ sl, i ∈ vs) (hsj : ∀ i ∈ sj, i ∈ us) {σ : L2.St} {H : Hp} {Q : VK} (hh : clE K (aLc2 K w g tt wj h tu te vs us) σ H Q) :
    tLc2 (clI K w) (clG K sl g) (clT K tt) (clI K wj) (clG K sj h) (clT K tu) (clE K te) vs us σ H Q := by
  obtain ⟨a, m, q, h1, h2, h3, h4⟩ := hh
  refine ⟨a, m, _, h1, h2, h3, fun xs G m1 J H1 l1 g1 S q1 => fun D hD => ?_⟩
  have q1 := q1 D (g1.free hD)
  have lD : Le K H1 (L2.upd H1 D (.lst [])) := .new hD
  refine ⟨fun i k H' => k = xs.length - i ∧ i ≤ xs.length ∧ ∃ m, Le K (L2.upd H1 D (.lst [])) H' ∧ SimH K H' m ∧ lc2L K g tt wj h tu te us G D q (wipeA a vs) (xs.drop i) m, ⟨xs.length, by simp, Nat.zero_le _, _, .refl, g1.new hD (o := .lst []) ⟨[], upd_same, .nil⟩, q1⟩, ?_⟩
  rintro i k H2 ⟨rfl, hi, m2, l2, g2, q2⟩
  have l12 := lD.trans l2
  have s2 : SimS K H2 (wipeA a vs) (L2.wipe σ vs) := (h1.wiped vs).mono (l1.trans l12)
  by_cases hlt : i < xs.length
  · rw [List.drop_eq_getElem_cons hlt] at q2
    obtain ⟨gm, q2⟩ := q2
    refine .inr ⟨S.go i H2 m2 l12 g2 gm hlt, fun H' => ∃ m, Le K (L2.upd H1 D (.lst [])) H' ∧ SimH K H' m ∧ lc2L K g tt wj h tu te us G D q (wipeA a vs) (xs.drop (i + 1)) m, fun H' z => ⟨xs.length - (i + 1), by omega, rfl, hlt, z⟩, fun v H3 y => ?_⟩
    obtain ⟨l3, g3, r3⟩ := S.yld i H2 m2 v H3 xs[i] l12 g2 gm (List.getElem?_eq_getElem hlt) y
    refine ⟨xs[i], wipeA a vs, m2, _, r3, s2.mono l3, g3, q2, fun t4 m4 σ4 H4 l4 s4 g4 z1 z2 q4 => ⟨wipe_same hsl z1 z2, t4, m4, _, s4, g4, q4, fun b m5 H5 l5 g5 q5 => ?_⟩⟩
    cases b with
    | false =>
      rw [if_neg Bool.false_ne_true]
      have q5 := (if_neg Bool.false_ne_true) ▸ q5
      obtain ⟨m6, z, q5⟩ := q5
      exact ⟨m6, l2.trans (l3.trans (l4.trans l5)), z _ g5, q5⟩
    | true =>
      rw [if_pos rfl]
      have q5 := (if_pos rfl) ▸ q5
      refine ⟨t4, m5, _, s4.mono l5, g5, q5, fun ys G2 m6 J2 H6 l6 g6 S2 q6 => ?_⟩
      exact lcI_of hsj (s4.mono (l5.trans l6)) g6 S2 q6 fun m7 H7 l7 g7 ⟨m8, z8, q8⟩ => ⟨m8, l2.trans (l3.trans (l4.trans (l5.trans (l6.trans l7)))), z8 _ g7, q8⟩
  · have hi' : xs.length ≤ i := Nat.le_of_not_lt hlt
    rw [List.drop_eq_nil_of_le hi'] at q2
    exact .inl ⟨S.stop i H2 m2 l12 g2 q2.1 hi', h4 _ m2 _ H2 (l1.trans l12) g2 (.ref D) q2.2⟩
variable {elt tg iter th jter : Expr} {fs gs : List Expr} {scope : Scope} {own : List (Str × Nat)} {w wj : ATI} {sl sj us : List Nat} {g h : ATG} {tt tu : ATT} {te : ATE}
theorem ae_lc2 (hc : X.calm = true) (hN : X.N.Nodup) (hi : AI X tg iter w) (ok : BlkOk X.N X.env.scope scope own) (sub : ∀ i ∈ us, i ∈ own.map (·.2))
    (hg : ∀ (s : Shared) (H : Hp) (C : Addr) (cl : List (Str × Addr)) (fp : List Addr), AG (X.blk s H scope (compEnvC scope cl C X.env) fp) tg sl g) (ht : ∀ (s : Shared) (H : Hp) (C : Addr) (cl : List (Str × Addr)) (fp : List Addr), ATs (X.blk s H scope (compEnvC scope cl C X.env) fp) fs tt)
    (hj : ∀ (s : Shared) (H : Hp) (C : Addr) (cl : List (Str × Addr)) (fp : List Addr), AI (X.blk s H scope (compEnvC scope cl C X.env) fp) th jter wj)
    (hh : ∀ (s : Shared) (H : Hp) (C : Addr) (cl : List (Str × Addr)) (fp : List Addr), AG (X.blk s H scope (compEnvC scope cl C X.env) fp) th sj h) (hu : ∀ (s : Shared) (H : Hp) (C : Addr) (cl : List (Str × Addr)) (fp : List Addr), ATs (X.blk s H scope (compEnvC scope cl C X.env) fp) gs tu)
    (hv : ∀ (s : Shared) (H : Hp) (C : Addr) (cl : List (Str × Addr)) (fp : List Addr), AE (X.blk s H scope (compEnvC scope cl C X.env) fp) elt te) (hsl : ∀ i ∈ sl, i ∈ own.map (·.2) := by decide) (hsj : ∀ i ∈ sj, i ∈ us := by decide) (hs : ∀ x, foldedSetIterable iter X.env x = pure x := by intro _; rfl) (hs2 : ∀ env x, foldedSetIterable jter env x = pure x := by intro _ _; rfl) :
    AE X (lc2X elt tg iter th jter fs gs scope pos) (aLc2 X.K w g tt wj h tu te (own.map (·.2)) us) := by
  refine ⟨fun pins s σ H Q inv z => ?_⟩
  rw [eval_ListComp]
  refine lc2_main ⟨hc, hN, hi, ok, sub, hg, ht, hv, hs, hj, hh, hu, hs2⟩ inv (lc2_of hsl hsj z) ?_
  intro L C s2 m H2 inv2 q ns fp
  refine ⟨m, ns, fun h4 sb => ?_⟩
  obtain ⟨f0, f1, f2, f3, f4, f5⟩ := fp
  exact ⟨.ref L, H2, inv2.turned (t' := s2.toks) (fun b o hb e => (sb.2 b hb).trans e) f0 f1 f3 f4 f5, rfl, q⟩
end
end Ab

namespace Ab
open PySem PySem.Spec PyProof.Rows L2 RZ
def zipA (xs ys : List AV) : List AV := (xs.zip ys).map fun p => .raw [p.1, p.2]
theorem zipA_get (xs ys : List AV) (i : Nat) {z : AV} (h : (zipA xs ys)[i]? = some z) : ∃ x y, xs[i]? = some x ∧ ys[i]? = some y ∧ z = .raw [x, y] := by
  unfold zipA at h
  rw [List.getElem?_map] at h
  cases e : (xs.zip ys)[i]? with
  | none => rw [e] at h; cases h
  | some p =>
    rw [e] at h
    cases h
    obtain ⟨h1, h2⟩ := List.getElem?_zip_eq_some.mp e
    exact ⟨p.1, p.2, h1, h2, rfl⟩
theorem zipA_len (xs ys : List AV) : (zipA xs ys).length = min xs.length ys.length := by
  unfold zipA
  rw [List.length_map, List.length_zip]
def wZip (ta tb : ATE) : ATI := fun a m q => ta a m fun x m1 => tb a m1 fun y m2 => match x, y with
  | .tup xs, .tup ys => q (zipA xs ys) (fun _ => True) m2
  | .ref a, .ref b => match m2 a, m2 b with
    | some (.lst xs), some (.lst ys) => q (zipA xs ys) (fun m => m a = some (.lst xs) ∧ m b = some (.lst ys)) m2
    | _, _ => False
  | _, _ => False
section
variable {X : Cx} {e e2 : Expr} {ta tb : ATE}
theorem itz_l {K : PySem.W.Frag} {H : Hp} (a b : Addr) (xs ys : List AV) : ItS K H (zipA xs ys) (fun m => m a = some (.lst xs) ∧ m b = some (.lst ys)) (Itz K a b) := by
  refine ⟨fun i H' m' l g e i1 => ?_, fun i H' m' v H2 x l g e e2 y => ?_, fun i H' m' l g e i1 => ?_⟩
  · obtain ⟨us, f1, f2⟩ := g a _ e.1
    obtain ⟨ws, f3, f4⟩ := g b _ e.2
    rw [zipA_len] at i1
    have l1 := f2.length
    have l2 := f4.length
    have h1 : i < us.length := by omega
    have h2 : i < ws.length := by omega
    exact ⟨us, ws, us[i], ws[i], SqL.of f1, SqL.of f3, List.getElem?_eq_getElem h1, List.getElem?_eq_getElem h2⟩
  · obtain ⟨us, f1, f2⟩ := g a _ e.1
    obtain ⟨ws, f3, f4⟩ := g b _ e.2
    obtain ⟨T, u, w, rfl, hT, rfl, y1, y2⟩ := y
    obtain ⟨x1, x2, e3, e4, rfl⟩ := zipA_get xs ys i e2
    obtain ⟨v1, e5, r5⟩ := f2.get e3
    obtain ⟨v2, e6, r6⟩ := f4.get e4
    have q1 := y1 us (SqL.of f1)
    have q2 := y2 ws (SqL.of f3)
    rw [e5] at q1; cases q1
    rw [e6] at q2; cases q2
    exact newT_sim g hT (.cons r5 (.cons r6 .nil))
  · obtain ⟨us, f1, f2⟩ := g a _ e.1
    obtain ⟨ws, f3, f4⟩ := g b _ e.2
    rw [zipA_len] at i1
    have l1 := f2.length
    have l2 := f4.length
    exact ⟨us, ws, SqL.of f1, SqL.of f3, by omega⟩
theorem itz_s {K : PySem.W.Frag} {H : Hp} {a b : Addr} {xs ys : List AV} {us ws : List V} (f1 : SqT K H a us) (f2 : SimVs K H xs us) (f3 : SqT K H b ws) (f4 : SimVs K H ys ws) : ItS K H (zipA xs ys) (fun _ => True) (ItzT K a b) := by
  have l1 := f2.length
  have l2 := f4.length
  refine ⟨fun i H' m' l g e i1 => ?_, fun i H' m' v H2 x l g e e2 y => ?_, fun i H' m' l g e i1 => ?_⟩
  · rw [zipA_len] at i1
    have h1 : i < us.length := by omega
    have h2 : i < ws.length := by omega
    exact ⟨us, ws, us[i], ws[i], l.tup _ _ f1, l.tup _ _ f3, List.getElem?_eq_getElem h1, List.getElem?_eq_getElem h2⟩
  · obtain ⟨T, u, w, rfl, hT, rfl, y1, y2⟩ := y
    obtain ⟨x1, x2, e3, e4, rfl⟩ := zipA_get xs ys i e2
    obtain ⟨v1, e5, r5⟩ := f2.get e3
    obtain ⟨v2, e6, r6⟩ := f4.get e4
    have q1 := y1 us (l.tup _ _ f1)
    have q2 := y2 ws (l.tup _ _ f3)
    rw [e5] at q1; cases q1
    rw [e6] at q2; cases q2
    exact newT_sim g hT (.cons (r5.mono l) (.cons (r6.mono l) .nil))
  · rw [zipA_len] at i1
    exact ⟨us, ws, l.tup _ _ f1, l.tup _ _ f3, by omega⟩
theorem ai_zip {p pos tpos : Pos} {elts : List Expr} {kk : Nat} (hg : Gl X "zip") (hm : X.mg "zip" = none) (ha : AE X e ta) (hb : AE X e2 tb)
    (hs : starEach [e, e2] X.env = (false, eval e X.env) :: starEach [e2] X.env := by rfl) (hs2 : starEach [e2] X.env = (false, eval e2 X.env) :: starEach [] X.env := by rfl) (hpl : (backTo pos (starEach [e2] X.env)).any (·.1) = false := by rfl) :
    AI X (.Tuple elts kk tpos) (.Call (.Name "zip" p) [e, e2] [] pos) (wZip ta tb) :=
  piI (pi_zipA hg hm (aa_cons ha (aa_cons hb aa_nil hs2) hs) hs hpl) fun σ H R ⟨a, m, q, h1, h2, h3, h4⟩ => by
    refine ⟨a, m, fun xs m2 => match xs with
      | [.tup xs, .tup ys] => q (zipA xs ys) (fun _ => True) m2
      | [.ref a, .ref b] => (match m2 a, m2 b with
        | some (.lst xs), some (.lst ys) => q (zipA xs ys) (fun m => m a = some (.lst xs) ∧ m b = some (.lst ys)) m2
        | _, _ => False)
      | _ => False, h1, h2, ?_, fun xs m1 vs H1 l1 g1 r1 q1 => ?_⟩
    · have e : wZip ta tb = fun a m q => ta a m fun x m1 => tb a m1 fun y m2 => (fun xs m2 => match xs with
        | [.tup xs, .tup ys] => q (zipA xs ys) (fun _ => True) m2
        | [.ref a, .ref b] => (match m2 a, m2 b with
          | some (.lst xs), some (.lst ys) => q (zipA xs ys) (fun m => m a = some (.lst xs) ∧ m b = some (.lst ys)) m2
          | _, _ => False)
        | _ => False) [x, y] m2 := by
        unfold wZip
        funext a m q
        congr 1
        funext x m1
        congr 1
        funext y m2
        cases x <;> cases y <;> rfl
      rw [e] at h3
      exact h3
    · have main : (∃ xs' ys, xs = [.tup xs', .tup ys] ∧ q (zipA xs' ys) (fun _ => True) m1) ∨ ∃ c d xs' ys, xs = [.ref c, .ref d] ∧ m1 c = some (.lst xs') ∧ m1 d = some (.lst ys) ∧ q (zipA xs' ys) (fun m => m c = some (.lst xs') ∧ m d = some (.lst ys)) m1 := by
        simp only at q1
        split at q1
        · exact .inl ⟨_, _, rfl, q1⟩
        · split at q1
          · rename_i e1 e2
            exact .inr ⟨_, _, _, _, rfl, e1, e2, q1⟩
          · exact q1.elim
        · exact q1.elim
      rcases main with ⟨xs', ys, rfl, q1⟩ | ⟨c, d, xs', ys, rfl, e1, e2, q1⟩
      · match r1 with
        | .cons (.tup f1 f2) (.cons (.tup f3 f4) .nil) =>
          exact ⟨_, _, _, _, rfl, .inr ⟨f1.sq, f3.sq, h4 _ _ m1 _ H1 l1 g1 (itz_s f1.sq f2 f3.sq f4) q1⟩⟩
      · match r1 with
        | .cons (.ref _) (.cons (.ref _) .nil) =>
          obtain ⟨us, f1, f2⟩ := g1 c _ e1
          obtain ⟨ws, f3, f4⟩ := g1 d _ e2
          exact ⟨_, _, _, _, rfl, .inl ⟨SqL.of f1, SqL.of f3, h4 _ _ m1 _ H1 l1 g1 (itz_l c d xs' ys) q1⟩⟩
end
end Ab

namespace Ab
open PySem PySem.Spec PyProof.Rows L2
def lettersA (z : Str) : List AV := z.cps.toList.map fun c => AV.str ⟨#[c]⟩
def wStr (te : ATE) : ATI := fun a m q => te a m fun x m1 => match x with
  | .str z => q (lettersA z) (fun _ => True) m1
  | _ => False
theorem its_s {K : PySem.W.Frag} {H : Hp} (z : Str) : ItS K H (lettersA z) (fun _ => True) (Its z) := by
  have len : (lettersA z).length = z.cps.size := by
    unfold lettersA
    rw [List.length_map, Array.length_toList]
  refine ⟨fun i H' m' l g e i1 => ?_, fun i H' m' v H2 x l g e e2 y => ?_, fun i H' m' l g e i1 => ?_⟩
  · rw [len] at i1; exact i1
  · obtain ⟨rfl, c, e3, rfl⟩ := y
    unfold lettersA at e2
    rw [List.getElem?_map, Array.getElem?_toList, e3] at e2
    cases e2
    exact ⟨.refl, g, .str _⟩
  · rw [len] at i1; exact i1
theorem ai_str {X : Cx} {tg e : Expr} {te : ATE} (h : AE X e te) : AI X tg e (wStr te) := piI (pi_str h) fun σ H R ⟨a, m, q, h1, h2, h3, h4⟩ => by
  refine ⟨a, m, _, h1, h2, h3, fun x m1 v H1 l1 g1 r1 q1 => ?_⟩
  cases x with
  | str z =>
    cases r1
    exact ⟨z, rfl, h4 _ _ m1 _ H1 l1 g1 (its_s z) q1⟩
  | _ => exact (show False from q1).elim
end Ab

namespace Ab
open PySem PySem.Spec PyProof.Rows L2
section
variable {K : PySem.W.Frag} {m : AHp} {q : AK}
theorem lc2_fn {g : ATG} {tt : ATT} {wj : ATI} {h : ATG} {tu : ATT} {te : ATE} {us : List Nat} {G : AHp → Prop} {D : Addr} {q : AK} {t : ASt} {β : Type} (e : β → AV) (f : β → List AV) (hG : ∀ acc, G (updA m D (.lst acc))) : ∀ (xs : List β) (acc : List AV),
    (∀ x ∈ xs, ∀ acc' : List AV, acc'.length + (f x).length < sizeLine → ∀ Z : AK, Z (.ref D) (updA m D (.lst (acc' ++ f x))) → g (e x) t (updA m D (.lst acc')) fun a2 m2 => tt a2 m2 fun b m3 => if b = true then wj a2 m3 fun ys G2 m4 => lcL K h tu te G2 D Z (wipeA a2 us) ys m4 else Z (.ref D) m3) →
    acc.length + ((xs.map f).flatten).length < sizeLine → q (.ref D) (updA m D (.lst (acc ++ (xs.map f).flatten))) → lc2L K g tt wj h tu te us G D q t (xs.map e) (updA m D (.lst acc))
  | [], acc, _, _, hq => ⟨hG acc, by simpa using hq⟩
  | x :: xs, acc, st, hl, hq => by
    have hl : acc.length + ((f x) ++ (xs.map f).flatten).length < sizeLine := hl
    rw [List.length_append] at hl
    refine ⟨hG acc, ?_⟩
    refine st x List.mem_cons_self acc (by omega) (fun _ m5 => Fg K m5 fun m6 => lc2L K g tt wj h tu te us G D q t (xs.map e) m6) (.keep ?_)
    refine lc2_fn e f hG xs (acc ++ f x) (fun y hy => st y (List.mem_cons_of_mem _ hy)) (by rw [List.length_append]; omega) ?_
    rw [List.append_assoc]
    exact hq
theorem isi_of {x : AV} {a b : String} (h : tyA x m = some a) (hb : (tyNames.contains b = true ∧ b ≠ "NoneType") = True) : bIsi [x, .ty b] m q = q (.bl (isTy a b)) m := by
  simp only [bIsi, h, hb, true_and]
theorem isiS_s {z : Str} : bIsi [.str z, .ty "str"] m q = q (.bl true) m := isi_of (a := "str") (b := "str") rfl (eq_true (by decide))
theorem isiS_i {i : Int} : bIsi [.int i, .ty "str"] m q = q (.bl false) m := isi_of (a := "int") (b := "str") rfl (eq_true (by decide))
theorem isiS_t {xs : List AV} : bIsi [.tup xs, .ty "str"] m q = q (.bl false) m := isi_of (a := "tuple") (b := "str") rfl (eq_true (by decide))
theorem isiS_b {b : Bool} : bIsi [.bl b, .ty "str"] m q = q (.bl false) m := isi_of (a := "bool") (b := "str") rfl (eq_true (by decide))
theorem isiS_n : bIsi [.non, .ty "str"] m q = q (.bl false) m := isi_of (a := "NoneType") (b := "str") rfl (eq_true (by decide))
theorem isiI_s {z : Str} : bIsi [.str z, .ty "int"] m q = q (.bl false) m := isi_of (a := "str") (b := "int") rfl (eq_true (by decide))
theorem isiI_i {i : Int} : bIsi [.int i, .ty "int"] m q = q (.bl true) m := isi_of (a := "int") (b := "int") rfl (eq_true (by decide))
theorem isiI_t {xs : List AV} : bIsi [.tup xs, .ty "int"] m q = q (.bl false) m := isi_of (a := "tuple") (b := "int") rfl (eq_true (by decide))
theorem isiI_b {b : Bool} : bIsi [.bl b, .ty "int"] m q = q (.bl true) m := isi_of (a := "bool") (b := "int") rfl (eq_true (by decide))
theorem isiI_n : bIsi [.non, .ty "int"] m q = q (.bl false) m := isi_of (a := "NoneType") (b := "int") rfl (eq_true (by decide))
theorem isiB_s {z : Str} : bIsi [.str z, .ty "bool"] m q = q (.bl false) m := isi_of (a := "str") (b := "bool") rfl (eq_true (by decide))
theorem isiB_i {i : Int} : bIsi [.int i, .ty "bool"] m q = q (.bl false) m := isi_of (a := "int") (b := "bool") rfl (eq_true (by decide))
theorem isiB_t {xs : List AV} : bIsi [.tup xs, .ty "bool"] m q = q (.bl false) m := isi_of (a := "tuple") (b := "bool") rfl (eq_true (by decide))
theorem isiB_b {b : Bool} : bIsi [.bl b, .ty "bool"] m q = q (.bl true) m := isi_of (a := "bool") (b := "bool") rfl (eq_true (by decide))
theorem isiB_n : bIsi [.non, .ty "bool"] m q = q (.bl false) m := isi_of (a := "NoneType") (b := "bool") rfl (eq_true (by decide))
theorem isi_b {b : Bool} : bIsi [.bl b, .ty "tuple"] m q = q (.bl false) m := isi_of (a := "bool") (b := "tuple") rfl (eq_true (by decide))
theorem isi_n : bIsi [.non, .ty "tuple"] m q = q (.bl false) m := isi_of (a := "NoneType") (b := "tuple") rfl (eq_true (by decide))
theorem abc_eq : (Str.ofString "abcdefghijklmnopqrstuvwxyz").cps.toList = (List.range 26).map (· + 97) := by decide +kernel
theorem abc_mem (c : Nat) : c ∈ (Str.ofString "abcdefghijklmnopqrstuvwxyz").cps.toList ↔ 97 ≤ c ∧ c ≤ 122 := by
  rw [abc_eq, List.mem_map]
  constructor
  · rintro ⟨i, hi, rfl⟩
    have := List.mem_range.mp hi
    omega
  · rintro ⟨h1, h2⟩
    exact ⟨c - 97, List.mem_range.mpr (by omega), by omega⟩
theorem in_abc {c : Nat} (f : Bool → Bool) : bInB f (.str ⟨#[c]⟩) (.str (Str.ofString "abcdefghijklmnopqrstuvwxyz")) m q = q (.bl (f (decide (97 ≤ c ∧ c ≤ 122)))) m := by
  show q (.bl (f (decide (c ∈ (Str.ofString "abcdefghijklmnopqrstuvwxyz").cps.toList)))) m = _
  rw [decide_eq_decide.mpr (abc_mem c)]
theorem cutG_map' {α β : Type} (f : α → β) (xs : List α) (lo hi : Option Int) : cutG (xs.map f) lo hi = (cutG xs lo hi).map f := by
  unfold cutG
  rw [List.length_map, List.map_take, List.map_drop]
theorem cutG_butlast {α : Type} (xs : List α) : cutG xs none (some (-1)) = xs.dropLast := by
  unfold cutG
  rw [HT.sIx_none, List.drop_zero, Nat.sub_zero]
  show xs.take (if (-1 : Int) < 0 then ((-1 : Int) + (xs.length : Int)).toNat else min (-1 : Int).toNat xs.length) = _
  rw [if_pos (by decide), List.dropLast_eq_take]
  congr 1
  omega
theorem zipA_map {α β : Type} (f : α → AV) (g : β → AV) (xs : List α) (ys : List β) : zipA (xs.map f) (ys.map g) = (xs.zip ys).map fun p => .raw [f p.1, g p.2] := by
  unfold zipA
  rw [List.zip_map, List.map_map]
  rfl
theorem near_of {α : Type} {R : α → α → Prop} : ∀ {xs : List α}, xs.Pairwise R → ∀ p ∈ xs.dropLast.zip (xs.drop 1), R p.1 p.2
  | [], _, p, hp => absurd hp (by simp)
  | [a], _, p, hp => absurd hp (by simp)
  | a :: b :: r, h, p, hp => by
    rw [List.pairwise_cons] at h
    have e : (a :: b :: r).dropLast.zip ((a :: b :: r).drop 1) = (a, b) :: (b :: r).dropLast.zip ((b :: r).drop 1) := by
      cases r <;> rfl
    rw [e] at hp
    rcases List.mem_cons.mp hp with rfl | hp
    · exact h.1 b List.mem_cons_self
    · exact near_of h.2 p hp
theorem getK_none {kvs : List (Key × AV)} {k : Key} (h : k ∉ kvs.map (·.1)) : getK kvs k = none := by
  unfold getK
  rw [Option.map_eq_none_iff, List.find?_eq_none]
  intro x hx e
  exact h (List.mem_map.mpr ⟨x, hx, by simpa using e⟩)
theorem putA_keys {kvs : List (Key × AV)} {k j : Key} {z : AV} (h : j ∈ (putA kvs k z).map (·.1)) : j ∈ kvs.map (·.1) ∨ j = k := by
  unfold putA at h
  split at h
  · rw [List.map_map] at h
    obtain ⟨x, hx, e⟩ := List.mem_map.mp h
    by_cases hk : x.1 = k
    · refine .inr ?_
      rw [← e]
      simp [hk]
    · refine .inl (List.mem_map.mpr ⟨x, hx, ?_⟩)
      rw [← e]
      simp [hk]
  · rw [List.map_append, List.mem_append] at h
    rcases h with h | h
    · exact .inl h
    · exact .inr (by simpa using h)
theorem foldF_keys {f : AV → Option (Key × AV)} {j : Key} : ∀ {xs : List AV} {kvs : List (Key × AV)}, j ∈ (xs.foldl (putFA f) kvs).map (·.1) → j ∈ kvs.map (·.1) ∨ ∃ x ∈ xs, ∃ v, f x = some (j, v)
  | [], kvs, h => .inl h
  | x :: xs, kvs, h => by
    rw [List.foldl_cons] at h
    rcases foldF_keys h with h | ⟨y, hy, v, e⟩
    · unfold putFA at h
      cases e : f x with
      | none => rw [e] at h; exact .inl h
      | some p =>
        rw [e] at h
        rcases putA_keys h with h | rfl
        · exact .inl h
        · exact .inr ⟨x, List.mem_cons_self, p.2, by rw [e]⟩
    · exact .inr ⟨y, List.mem_cons_of_mem _ hy, v, e⟩
end
end Ab

namespace Ab
open PySem PySem.Spec PyProof.Rows L2
section
variable {prog : Program} {w : World} {A : Around} {E : Value → Shared → Prop} {s : Shared}
theorem star_items {l : Addr} {items : Array Value} {n i : Nat} {Q : List Value → Shared → Prop} (hl : IsTup s.heap l items) (hh : A.handled = none) (hi : i < n) (hn : n ≤ items.size + 1) (hz : items.size ≤ 16384)
    (h : ∀ h₂ tk, Heap.ExtBut s.heap.objs.size s.heap h₂ → Q (items.toList.take i ++ [.ref h₂.objs.size] ++ (items.toList.drop i).drop (items.size + 1 - n)) { s with heap := h₂.push { cls := .type "list", data := .seq ((items.toList.drop i).take (items.size + 1 - n)).toArray }, toks := tk }) :
    wpAny (model prog w) A (unpackItems (.ref l) n (some i)) Q E s := by
  have hlt : l ≠ s.heap.objs.size := by obtain ⟨o, ho, _⟩ := hl; exact Nat.ne_of_lt (Heap.lt_size ho)
  have hll : l < s.heap.objs.size := by obtain ⟨o, ho, _⟩ := hl; exact Heap.lt_size ho
  unfold unpackItems
  refine wpAny_bind ?_
  unfold notIterableAtAll
  refine wpAny_bind (wpAny_specialOf hl.typeIs slot_tuple_iter.lookup ?_)
  refine wpAny_pure ?_
  simp only [Bool.false_eq_true, if_false]
  refine wpAny_bind (wpAny_holding (iter_tuple hl ?_))
  refine wpAny_bind (wpAny_holding (draw_tuple hlt i 0 _ _ ⟨_, Heap.get?_push_size _ rfl, rfl, rfl⟩ (hl.push _) (by omega) fun h₁ hit₁ hs₁ => ?_))
  have hl₁ : IsTup h₁ l items := (hl.push _).extBut hs₁.extBut hlt
  rw [Nat.zero_add] at hit₁
  have hit₁' := hit₁
  obtain ⟨oi, hoi, _⟩ := hit₁'
  have hl₁' := hl₁
  obtain ⟨ol, hol, _⟩ := hl₁'
  rw [List.drop_zero]
  have hfl : (items.toList.take i).length = i := by rw [List.length_take, Array.length_toList]; omega
  rw [if_neg (show ¬ ((items.toList.take i).length < i) by rw [hfl]; omega)]
  refine wpAny_bind (wpAny_holding (PySem.W.kun_collect (s := { s with heap := h₁ }) (T := "tuple_iterator") (.inr (.inr (.inr rfl))) (Walks.tuple (A := A.in1) hh s.heap.objs.size l hlt items) (fun j u st => st.1.typeIs) (k := i) (by omega) ⟨hit₁, hl₁⟩ (Heap.lt_size hoi) (Heap.lt_size hol) (fun h₂ tk hk => ?_) (by rw [sizeLine_eq]; omega)))
  have hrl : (items.toList.drop i).length = items.size - i := by rw [List.length_drop, Array.length_toList]
  have hmid : (items.toList.drop i).length - (n - 1 - i) = items.size + 1 - n := by rw [hrl]; omega
  show wpAny _ _ (if (items.toList.drop i).length < n - 1 - i then _ else _) _ _ _
  rw [if_neg (by rw [hrl]; omega)]
  show wpAny _ _ (newList ((items.toList.drop i).take ((items.toList.drop i).length - (n - 1 - i))) >>= fun d => pure (items.toList.take i ++ [d] ++ (items.toList.drop i).drop ((items.toList.drop i).length - (n - 1 - i)))) _ _ _
  rw [hmid]
  have he : Heap.ExtBut s.heap.objs.size s.heap h₂ := fun b o hb e => hk b o hb (hs₁.extBut b o hb (Heap.get?_push_of_some _ e))
  refine wpAny_bind (wpAny_newObj_type ?_ (by show ((items.toList.drop i).take (items.size + 1 - n)).toArray.size ≤ sizeLine; rw [List.size_toArray, List.length_take, hrl, sizeLine_eq]; omega))
  exact wpAny_pure (h h₂ tk he)
end
section
variable {X : Cx} {pos : Pos}
def gStar (K : PySem.W.Frag) (i n : Nat) (t : TGs) : TG := fun v σ H Q => ∃ a xs, v = .ref a ∧ SqT K H a xs ∧ i < n ∧ n ≤ xs.length + 1 ∧ xs.length ≤ 16384 ∧
  ∀ D, H D = none → t (xs.take i ++ [.ref D] ++ (xs.drop i).drop (xs.length + 1 - n)) σ (L2.upd H D (.lst ((xs.drop i).take (xs.length + 1 - n)))) Q
theorem pg_star {es : List Expr} {k : Nat} {t : TGs} {n i : Nat} (hc : X.calm = true) (h : PGs X es t)
    (hn : (assignEach es X.env).length = n := by rfl) (hst : (assignEach es X.env).findIdx? (·.1) = some i := by rfl) : PG X (.Tuple es k pos) (gStar X.K i n t) := by
  refine ⟨fun pins s σ H v u Q I r hw => ?_⟩
  obtain ⟨a, xs, e1, hq, h1, h2, h3, hw⟩ := hw
  subst e1
  cases r
  obtain ⟨its, rv, ht, hz⟩ := I.tuple hq
  have hl : xs.length = its.toArray.size := rv.length.trans (by simp)
  rw [PyProof.Rows.assign_Tuple]
  refine wpAny_bind (wpAny_standAt ?_)
  unfold unpack
  rw [hn, hst]
  refine wpAny_bind (wpAny_holding (star_items ht (I.ok.hd hc) h1 (by omega) (by omega) fun h₂ tk he => ?_))
  have I1 : Inv X pins σ H { s with heap := h₂, toks := tk } := I.kept (t' := tk) fun b o e => he b o (Nat.ne_of_lt (Heap.lt_size e)) e
  have hD : H h₂.objs.size = none := I1.hok.fresh (Nat.le_refl _)
  have rm : Vals ((xs.drop i).take (xs.length + 1 - n)) ((its.drop i).take (its.toArray.size + 1 - n)) := by rw [hl]; exact (rv.drop i).take _
  have I2 : Inv X pins σ (L2.upd H h₂.objs.size (.lst ((xs.drop i).take (xs.length + 1 - n)))) { s with heap := h₂.push { cls := .type "list", data := .seq ((its.drop i).take (its.toArray.size + 1 - n)).toArray }, toks := tk } := by
    refine I1.laid (t' := tk) (fun b o e => Heap.get?_push_of_some _ e) (Nat.le_refl _) ⟨?_, _, 0, rm, ?_⟩
    · rw [List.length_take, List.length_drop]
      exact (show _ ≤ 16777216 by omega)
    · exact Heap.get?_push_size _ rfl
  have e : (its.toArray.toList.take i ++ [Value.ref h₂.objs.size] ++ (its.toArray.toList.drop i).drop (its.toArray.size + 1 - n)) = its.take i ++ [Value.ref h₂.objs.size] ++ (its.drop i).drop (its.toArray.size + 1 - n) := by simp
  rw [e]
  refine h.run pins _ σ _ _ _ Q I2 ?_ (hw _ hD)
  refine ((rv.take i).append (.cons (show L2.RelV (V.ref h₂.objs.size) (Value.ref h₂.objs.size) from rfl) .nil)).append ?_
  rw [hl]
  exact (rv.drop i).drop _
theorem pgs_consS {e : Expr} {p : Pos} {es : List Expr} {t : TG} {u : TGs} (h1 : PG X e t) (h2 : PGs X es u) : PGs X (.Starred e p :: es) (gCons t u) := by
  refine ⟨fun pins s σ H vs us Q I r h => ?_⟩
  obtain ⟨v, vr, e1, h⟩ := h
  subst e1
  cases r with
  | cons r rr =>
    show wpAny _ _ (assignInOrder (assign e X.env :: (assignEach es X.env).map (·.2)) _) _ _ _
    refine assignInOrder_cons (thn (h1.run pins s σ H _ _ _ I r h) fun _ s1 ⟨σ1, H1, I1, q1⟩ => ?_)
    exact h2.run pins s1 σ1 H1 _ _ Q I1 rr q1
theorem ags_consS {e : Expr} {p : Pos} {es : List Expr} {sl sl' : List Nat} {g : ATG} {r : ATGs} (h1 : AG X e sl g) (h2 : AGs X es sl' r) : AGs X (.Starred e p :: es) (sl ++ sl') (aGCons g r) :=
  pgsI (pgs_consS h1 h2) fun v σ H Q ⟨xs, a, m, q, h1, h2, h3, h4, h5⟩ => by
    cases h1 with
    | nil => exact h4.elim
    | cons r1 rr =>
      refine ⟨_, _, rfl, _, a, m, _, r1, h2, h3, h4, fun t' m' σ' H' l s1 g1 z1 z2 q1 => ⟨_, t', m', q, rr.mono l, s1, g1, q1, fun t2 m2 σ2 H2 l2 s2 g2 z3 z4 q2 => h5 t2 m2 σ2 H2 (l.trans l2) s2 g2 (z3.trans z1) (fun i hi => ?_) q2⟩⟩
      rw [List.mem_append, not_or] at hi
      rw [z4 i hi.2, z2 i hi.1]
def aStar (i n : Nat) (g : ATGs) : ATG := fun x a m q => match x with
  | .tup xs => i < n ∧ n ≤ xs.length + 1 ∧ xs.length ≤ 16384 ∧ ∀ p, m p = none → g (xs.take i ++ [.ref p] ++ (xs.drop i).drop (xs.length + 1 - n)) a (updA m p (.lst ((xs.drop i).take (xs.length + 1 - n)))) q
  | _ => False
theorem SimVs.cut {K : PySem.W.Frag} {H : Hp} : ∀ {xs : List AV} {vs : List V}, SimVs K H xs vs → ∀ n, SimVs K H (xs.take n) (vs.take n) ∧ SimVs K H (xs.drop n) (vs.drop n)
  | _, _, .nil, n => by simp only [List.take_nil, List.drop_nil]; exact ⟨.nil, .nil⟩
  | _, _, .cons h t, 0 => ⟨.nil, .cons h t⟩
  | _, _, .cons h t, n + 1 => ⟨.cons h (SimVs.cut t n).1, (SimVs.cut t n).2⟩
theorem ag_star {es : List Expr} {k : Nat} {sl : List Nat} {g : ATGs} {n i : Nat} (hc : X.calm = true) (h : AGs X es sl g)
    (hn : (assignEach es X.env).length = n := by rfl) (hst : (assignEach es X.env).findIdx? (·.1) = some i := by rfl) : AG X (.Tuple es k pos) sl (aStar i n g) := pgI (pg_star hc h hn hst) fun v σ H Q ⟨x, a, m, q, h1, h2, h3, h4, h5⟩ => by
  cases x with
  | tup xs =>
    cases h1 with
    | tup hq hs =>
      obtain ⟨z1, z2, z3, z4⟩ := h4
      have el := hs.length
      refine ⟨_, _, rfl, hq.sq, z1, by rw [← el]; exact z2, by rw [← el]; exact z3, fun D hD => ?_⟩
      have lD : ∀ zs, Le X.K H (L2.upd H D (.lst zs)) := fun zs => .new hD
      refine ⟨_, a, _, q, ?_, h2.mono (lD _), h3.new hD (o := .lst ((xs.drop i).take (xs.length + 1 - n))) ⟨_, upd_same, ?_⟩, z4 D (h3.free hD), fun t' m' σ' H' l s1 g1 y1 y2 q1 => h5 t' m' σ' H' ((lD _).trans l) s1 g1 y1 y2 q1⟩
      · rw [← el]
        exact ((((hs.cut i).1).append (.cons (.ref D) .nil)).append ((hs.cut i).2.cut _).2).mono (lD _)
      · rw [← el]
        exact ((hs.cut i).2.cut _).1.mono (lD _)
  | _ => exact h4.elim
end
end Ab

namespace Ab
open PySem PySem.Spec PyProof.Rows L2
def EntOk (p : Params) (e : DictEntry) (kv : Str × Int) : Prop := (∃ t, e.key = .str kv.1 t ∧ e.hash = PyData.keyHash p kv.1) ∧ ∃ t, e.val = .int kv.2 t
structure KNums (K : PySem.W.Frag) (w : World) (mg : Str → Option Value) (c : Str) (kvs : List (Str × Int)) : Prop where
  ex : ∃ d es n, mg c = some (.ref d) ∧ K.lookup d = some ⟨.type "dict", none, .dict es n, #[]⟩ ∧ (d == sysModules) = false ∧ Paired (EntOk w.params) es.toList kvs
theorem ent_lit {p : Params} : ∀ {l : List DictEntry} {kvs : List (Str × Int)}, Paired (EntOk p) l kvs → PySem.W.KeysLit p l
  | _, _, .nil => trivial
  | _, _, .cons h t => ⟨⟨_, h.1⟩, ent_lit t⟩
theorem ent_find {p : Params} {x : Str} : ∀ {l : List DictEntry} {kvs : List (Str × Int)}, Paired (EntOk p) l kvs → match kvs.lookup x with
    | some i => ∃ e t, l.find? (fun e => e.key.isStr x) = some e ∧ e.val = .int i t
    | none => l.find? (fun e => e.key.isStr x) = none ∧ l.any (·.refKey) = false
  | _, _, .nil => ⟨rfl, rfl⟩
  | e :: l, (k, i) :: kvs, .cons h t => by
    have ih := ent_find (x := x) t
    obtain ⟨⟨tk, e1, _⟩, tv, e2⟩ := h
    have e1 : e.key = .str k tk := e1
    have e2 : e.val = .int i tv := e2
    have hs : e.key.isStr x = decide (k = x) := by rw [e1]; rfl
    have hr : e.refKey = false := by unfold DictEntry.refKey; rw [e1]
    by_cases hx : k = x
    · subst hx
      rw [List.lookup_cons, show (k == k) = true from beq_self_eq_true k]
      exact ⟨e, tv, by rw [List.find?_cons_of_pos (by rw [hs]; simp)], e2⟩
    · have hb : (x == k) = false := beq_eq_false_iff_ne.mpr fun z => hx z.symm
      rw [List.lookup_cons, hb]
      have hf : List.find? (fun e => e.key.isStr x) (e :: l) = List.find? (fun e => e.key.isStr x) l := List.find?_cons_of_neg (by rw [hs]; simpa using hx)
      cases eq : kvs.lookup x with
      | some j =>
        simp only [eq] at ih ⊢
        rw [hf]
        exact ih
      | none =>
        simp only [eq] at ih ⊢
        rw [hf, List.any_cons, hr, Bool.false_or]
        exact ih
section
variable {X : Cx} {e f a : Expr} {te tf : ATE} {c : Str} {p apos cpos : Pos} {kvs : List (Str × Int)}
def tKGet (kvs : List (Str × Int)) (ty tx : TE) : TE := fun σ H Q => ty σ H fun y H1 => tx σ H1 fun z H2 => ∃ x, y = .str x ∧ Q (((kvs.lookup x).map V.int).getD z) H2
theorem pe_kget {ty tx : TE} (hg : Gl X c) (hk : KNums X.K X.w X.mg c kvs) (he : PE X e ty) (hf : PE X f tx) (m : M2 X (.Name c p) "get" apos e f cpos)
    (hd : (c == ("__debug__" : Str)) = false := by decide) : PE X (.Call (.Attribute (.Name c p) "get" apos) [e, f] [] cpos) (tKGet kvs ty tx) := by
  obtain ⟨d, es, n, hmg, hl, low, pr⟩ := hk.ex
  have D : KDict X.K X.w d es n := ⟨hl, ent_lit pr, low⟩
  refine ⟨fun pins s σ H Q I h => ?_⟩
  refine wpAny_Call_method m.base m.few m.line PySem.F.plainAttrs_dict PySem.F.slot_dict_get PySem.F.type_dict_get (ld_glob I hg hmg ?_ hd)
  refine ⟨kd_type D I, fun b q => ?_, ?_⟩
  · cases q
    exact ⟨_, I.kIn _ _ hl, rfl⟩
  rw [m.trees]
  refine Calls.callWith_builtin rfl (Calls.evalArgs_plain (Calls.spliced_cons (thn (he.run pins s σ H _ I h) fun iv s2 ⟨y, H2, I2, ry, q2⟩ =>
    Calls.spliced_cons (thn (hf.run pins s2 σ H2 _ I2 q2) fun fv s3 ⟨z, H3, I3, rz, x, ex, q3⟩ => Calls.spliced_nil ?_))))
  subst ex
  obtain ⟨t, rfl⟩ := ry
  refine call_meetsIn PySem.F.slot_dict_get (kd_type D I3) PySem.F.entry_dict_get (PySem.F.args_dict_get_3 _ _ _) (meets_dict_get_default (PySem.strKind X.prog X.w) d (PySem.strKind_is X.prog X.w x t) low fv) ⟨_, PySem.W.mapOf_K (prog := X.prog) I3.kIn D.at_ D.lit, ?_⟩
  have z := ent_find (x := x) pr
  cases el : kvs.lookup x with
  | some i =>
    simp only [el] at z q3
    obtain ⟨en, tv, e1, e2⟩ := z
    have e3 : PySem.W.nsIn X.K d x = some (some (.int i tv)) := by
      unfold PySem.W.nsIn
      rw [hl]
      simp only [e1, e2]
    refine ⟨_, H3, I3.tok _, ?_, q3⟩
    rw [PySem.W.find_K hl e3]
    exact ⟨tv, rfl⟩
  | none =>
    simp only [el] at z q3
    have e3 : PySem.W.nsIn X.K d x = some none := by
      unfold PySem.W.nsIn
      rw [hl]
      simp only [z.1, z.2]
      rfl
    refine ⟨_, H3, I3.tok _, ?_, q3⟩
    rw [PySem.W.find_K hl e3]
    exact rz
def aKGet (kvs : List (Str × Int)) (te tf : ATE) : ATE := fun t m q => te t m fun y m1 => tf t m1 fun z m2 => match y with
  | .str x => q (((kvs.lookup x).map AV.int).getD z) m2
  | _ => False
theorem ae_kget (hg : Gl X c) (hk : KNums X.K X.w X.mg c kvs) (he : AE X e te) (hf : AE X f tf) (m : M2 X (.Name c p) "get" apos e f cpos := by first | exact ⟨rfl, rfl, rfl, rfl⟩ | exact ⟨by rfl, by rfl, by rfl, by rfl⟩)
    (hd : (c == ("__debug__" : Str)) = false := by decide) : AE X (.Call (.Attribute (.Name c p) "get" apos) [e, f] [] cpos) (aKGet kvs te tf) :=
  peI (pe_kget hg hk he hf m hd) fun σ H Q ⟨a, m, q, h1, h2, h3, h4⟩ => by
    refine ⟨a, m, _, h1, h2, h3, fun y m1 v H1 l1 g1 r1 q1 => ⟨a, m1, _, h1.mono l1, g1, q1, fun z m2 u H2 l2 g2 r2 q2 => ?_⟩⟩
    cases y with
    | str x =>
      cases r1
      refine ⟨x, rfl, h4 _ m2 _ H2 (l1.trans l2) g2 ?_ q2⟩
      cases kvs.lookup x with
      | some i => exact .int i
      | none => exact r2
    | _ => exact (show False from q2).elim
def tLenSet (K : PySem.W.Frag) (ta : TE) : TE := fun σ H Q => ta σ H fun x H1 => ∃ (l : Addr) (ns : List Int), x = .ref l ∧ SqL K H1 l (ns.map V.int) ∧ ns.length ≤ 4000 ∧ ∀ ks : List Int, ks.Nodup → (∀ k, k ∈ ks ↔ k ∈ ns) → Q (.int (ks.length : Nat)) H1
theorem pe_lenSet {ta : TE} {p2 q pos : Pos} (hg : Gl X "len") (hm : X.mg "len" = none) (hg2 : Gl X "set") (hm2 : X.mg "set" = none) (ha : PE X a ta) (hc : X.calm = true := by rfl)
    (na : starEach [a] X.env = (false, eval a X.env) :: starEach [] X.env := by rfl) : PE X (.Call (.Name "len" p) [.Call (.Name "set" p2) [a] [] q] [] pos) (tLenSet X.K ta) := by
  refine ⟨fun pins s σ H Q I h => ?_⟩
  refine Call_ (ld_blt I hg hm PySem.boot_len ?_)
  refine PyProof.Rows.callWith_builtin1 (PyProof.Rows.args_cons ?_ rfl) rfl rfl
  refine Call_ (ld_blt I hg2 hm2 PyProof.Rows.boot_set ?_)
  refine PyProof.Rows.callWith_type1 (PyProof.Rows.args_cons (thn (ha.run pins s σ H _ I h) fun v s1 ⟨x, H1, I1, r1, q1⟩ => PyProof.Rows.args_nil ?_) na) na rfl
  obtain ⟨l, ns, rfl, hq, hl, q1⟩ := q1
  cases r1
  obtain ⟨its, r, pl, hz⟩ := I1.list hq
  refine set_of_list ns (I1.ok.hd hc) pl.isList (by simpa using r.ints) (by unfold scanBound; omega) fun h' tk c R hcn k => PyProof.Rows.args_nil ?_
  obtain ⟨o, es, ep, t, ho, hex, hd, _, nd, hS, hb, hf, hn, _⟩ := R
  have I2 : Inv X pins σ H1 { s1 with heap := h', toks := tk } := I1.kept k
  have le : (es.toList.map L2.keyOf).length = es.size := by rw [List.length_map, Array.length_toList]
  refine PySem.call_len_set ho hex hd hf (by rw [hn]; omega) ⟨.int es.size, H1, I2.tok _, ⟨_, rfl⟩, ?_⟩
  rw [← le]
  exact q1 _ nd fun j => (hS j).symm.trans decide_eq_true_iff
def aLenSet (te : ATE) : ATE := fun t m q => te t m fun x m1 => match x with
  | .ref a => match m1 a with
    | some (.lst xs) => match asInts xs with
      | some ns => ns.length ≤ 4000 ∧ ∀ ks : List Int, ks.Nodup → (∀ k, k ∈ ks ↔ k ∈ ns) → q (.int (ks.length : Nat)) m1
      | none => False
    | _ => False
  | _ => False
theorem ae_lenSet {p2 q pos : Pos} (hg : Gl X "len") (hm : X.mg "len" = none) (hg2 : Gl X "set") (hm2 : X.mg "set" = none) (ha : AE X a te) (hc : X.calm = true := by rfl)
    (na : starEach [a] X.env = (false, eval a X.env) :: starEach [] X.env := by rfl) : AE X (.Call (.Name "len" p) [.Call (.Name "set" p2) [a] [] q] [] pos) (aLenSet te) := peI (pe_lenSet hg hm hg2 hm2 ha hc na) fun σ H Q ⟨t, m, q, h1, h2, h3, h4⟩ => by
  refine ⟨t, m, _, h1, h2, h3, fun x m1 v H1 l1 g1 r1 q1 => ?_⟩
  cases x with
  | ref b =>
    cases r1
    cases eb : m1 b with
    | none => simp only [eb] at q1
    | some ob =>
      cases ob with
      | lst xs =>
        cases en : asInts xs with
        | none => simp only [eb, en] at q1
        | some ns =>
          simp only [eb, en] at q1
          obtain ⟨ws, f1, f2⟩ := g1 b _ eb
          rw [asInts_eq en] at f2
          have e := SimVs.ints f2
          subst e
          exact ⟨b, ns, rfl, SqL.of f1, q1.1, fun ks h5 h6 => h4 _ m1 _ H1 l1 g1 (.int _) (q1.2 ks h5 h6)⟩
      | _ => simp only [eb] at q1
  | _ => exact (show False from q1).elim
def aDisp2C (a : Str) (i : Int) (b : Str) (j : Int) : ATE := fun _ m q => a ≠ b ∧ ∀ p, m p = none → q (.ref p) (updA m p (.dK [(.inr a, .int i), (.inr b, .int j)]))
theorem ae_disp2C {a b : Str} {i j : Int} {k1 k2 k3 k4} {p1 p2 p3 p4 pos : Pos} : AE X (.Dict [some (.Constant (.str a) k1 p1), some (.Constant (.str b) k2 p2)] [.Constant (.int i) k3 p3, .Constant (.int j) k4 p4] pos) (aDisp2C a i b j) :=
  peI (pe_disp (pps_cons pe_str pe_int (pps_cons pe_str pe_int pps_nil)) (by rfl) (by rfl) (fun z => by cases z) (show 2 ≤ 15 by decide)) fun σ H Q ⟨t, m, q, h1, h2, h3, h4⟩ => by
  intro p hp
  obtain ⟨ne, h3⟩ := h3
  have e : mergeK [] [((.inr a : Key), V.int i), (.inr b, V.int j)] = [(.inr a, V.int i), (.inr b, V.int j)] := by
    have hk : decide ((Sum.inr a : Key) = Sum.inr b) = false := decide_eq_false fun z => ne (Sum.inr.inj z)
    simp [mergeK, putK, hk]
    try exact fun z => absurd z ne
  refine ⟨upd_same, [(.inr a, .int i), (.inr b, .int j)], rfl, (show 2 ≤ 15 by decide), ?_⟩
  rw [e]
  have := h4.newD (xs := [((.inr a : Key), AV.int i), (.inr b, AV.int j)]) (vs := [(.inr a, V.int i), (.inr b, V.int j)]) h2 (.cons ⟨rfl, .int i⟩ (.cons ⟨rfl, .int j⟩ .nil)) hp h3
  rw [L2.upd_upd]
  exact this
end
end Ab

namespace Ab
open PySem PySem.Spec PyProof.Rows L2 PySem.AutoSeq1
theorem meets_enumerate_newT (l : Addr) (items : Array Value) (n : Nat) (dct : Option Addr) (sl : Array (Option Value)) :
    Meets (Builtin.«enumerate.__new__» ⟨[.type "enumerate", .ref l], []⟩) (fun _ R s => s.heap.get? l = some { cls := .type "tuple", dict := dct, data := .seq items n, slots := sl } ∧
      R (.ok (.ret (.ref (s.heap.push { cls := .type "tuple_iterator", data := .fields #[.ref l, .int 0 0] }).objs.size)))
        { s with heap := (s.heap.push { cls := .type "tuple_iterator", data := .fields #[.ref l, .int 0 0] }).push { cls := .type "enumerate", data := .fields #[.none, .bool false, .ref s.heap.objs.size, rawInt 0, .none, .none] } }) :=
  .of_wp fun prog w A R s h => by
    obtain ⟨hp, g, d, tk, os⟩ := s; obtain ⟨hl, h⟩ := h
    have hsub := sub_enumerate
    have hL : Heap.IsTuple (Shared.heap ⟨hp, g, d, tk, os⟩) l items := ⟨_, hl, rfl, n, rfl⟩
    wp_walk using wpAny_loadPart' hl
    refine wpAny_stack_any fun st => wpAny_pure ?_
    split
    · rename_i c _ _ _ _ _
      cases (c == Value.type "enumerate")
      · wp_walk using wpAny_loadPart' hl, wpAny_pyIter_tuple hL
        exact ⟨_, rfl, h⟩
      · wp_walk using wpAny_loadPart' hl, wpAny_pyIter_tuple hL
        exact ⟨_, rfl, h⟩
    · wp_walk using wpAny_loadPart' hl, wpAny_pyIter_tuple hL
      exact ⟨_, rfl, h⟩
section
variable {prog : Program} {w : World} {A : Around} {E : Value → Shared → Prop} {s : Shared}
theorem enumT_end {e it l : Addr} {i : Nat} {items : Array Value} {old : Value} {Q : Option Value → Shared → Prop} (hh : A.handled = none)
    (he : IsEnum s.heap e it i old) (hit : s.heap.IsTupleIter it l i) (hl : s.heap.IsTuple l items) (hx : items[i]? = none)
    (hQ : ∀ h', Heap.ExtBut it s.heap h' → Q none { s with heap := h' }) : wpAny (model prog w) A (pyNext (.ref e)) Q E s := by
  have hT : s.TypeIs (.ref e) "enumerate" := ⟨_, he, rfl⟩
  unfold pyNext
  refine wpAny_bind (wpAny_attempt (wpAny_callSpecial?_slot (name := Str.ofString "__next__") hT F.slot_enumerate_next
    (wpAny_call_entry F.slot_enumerate_next hT F.entry_enumerate_next ?_ (F.args_enumerate_next_1 _))))
  show wpAny _ _ (field (.ref e) 2 >>= _) _ _ _
  refine wpAny_bind (wpAny_field he rfl (x := .ref it) rfl ?_)
  refine wpAny_bind (wpAny_nextOf_tuple_end hh hit hl hx fun h' x he' hx' => ?_)
  obtain ⟨o, ho, hc⟩ := hx'
  refine wpAny_bind (wpAny_isInstance (T := "StopIteration") (b := true) ⟨o, ho, hc⟩ isSubtype_stop ?_)
  exact wpAny_pure (hQ _ he')
theorem call_enumT {l : Addr} {items : Array Value} {Q : Value → Shared → Prop} (hL : s.heap.IsTuple l items)
    (h : ∀ h', IsEnum h' (s.heap.objs.size + 1) s.heap.objs.size 0 .none → h'.IsTupleIter s.heap.objs.size l 0 → h'.objs.size = s.heap.objs.size + 2 →
      (∀ b o, s.heap.get? b = some o → h'.get? b = some o) → Q (.ref (s.heap.objs.size + 1)) { s with heap := h' }) :
    wpAny (model prog w) A (call (.type "enumerate") [.ref l]) Q E s := by
  obtain ⟨⟨c, dct, dt, sl⟩, hl, hc, n, hd⟩ := hL
  replace hc : c = .type "tuple" := hc
  replace hd : dt = .seq items n := hd
  subst hc hd
  refine callType_new F.called_enumerate (by decide) (F.typeCall_enumerate_1 _) (F.newCall_enumerate_1 _) (fun obj => F.args_object_init_2 obj _) F.entry_enumerate_new
    (meets_enumerate_newT l items n dct sl) ⟨hl, ?_⟩
  have hz : (s.heap.push { cls := .type "tuple_iterator", data := .fields #[.ref l, .int 0 0] }).objs.size = s.heap.objs.size + 1 := Heap.size_push ..
  show _ ∧ _
  rw [hz]
  have he : IsEnum ((s.heap.push { cls := .type "tuple_iterator", data := .fields #[.ref l, .int 0 0] }).push
      { cls := .type "enumerate", data := .fields #[.none, .bool false, .ref s.heap.objs.size, rawInt 0, .none, .none] }) (s.heap.objs.size + 1) s.heap.objs.size 0 .none := by
    have := Heap.get?_push_size (s.heap.push { cls := .type "tuple_iterator", data := .fields #[.ref l, .int 0 0] })
      (o := { cls := .type "enumerate", data := .fields #[.none, .bool false, .ref s.heap.objs.size, rawInt 0, .none, .none] }) rfl
    rw [hz] at this; exact this
  refine ⟨⟨_, he, rfl⟩, h _ he ⟨_, Heap.get?_push_of_some _ (Heap.get?_push_size _ rfl), rfl, rfl⟩ (by rw [Heap.size_push, hz]) fun b o x => Heap.get?_push_of_some _ (Heap.get?_push_of_some _ x)⟩
end
def IteT (K : PySem.W.Frag) (a : Addr) : It :=
  ⟨fun i H => ∃ (xs : List V) (x : V), SqT K H a xs ∧ xs[i]? = some x, fun i H v H' => ∃ T x, v = .ref T ∧ H T = none ∧ H' = L2.upd H T (.tup [.int (i : Nat), x]) ∧ ∀ xs, SqT K H a xs → xs[i]? = some x, fun i H => ∃ xs : List V, SqT K H a xs ∧ xs.length ≤ i⟩
theorem turn_enumT {P : Program} {w : World} {K : PySem.W.Frag} {elts : List Expr} {kk : Nat} {tpos : Pos} (a e it : Addr) :
    Turn P w K (.Tuple elts kk tpos) (IteT K a) [e, it] e (fun i h => (∃ old, IsEnum h e it ((i : Nat) : Int) old) ∧ h.IsTupleIter it a i ∧ e ≠ it ∧ e ≠ a ∧ a ≠ it) where
  mem := by simp
  obj := fun i h st b hb => by
    obtain ⟨⟨old, he⟩, ⟨o, ho, hc, hd⟩, _⟩ := st
    have e' : b = e ∨ b = it := by simpa using hb
    rcases e' with z | z
    · rw [z]; exact ⟨_, he, fun v q => nomatch q⟩
    · rw [z]; exact ⟨o, ho, fun v q => by rw [hd] at q; cases q⟩
  keep := fun i h h' st k => let ⟨⟨old, he⟩, hi, hne⟩ := st; ⟨⟨old, k e (by simp) _ he⟩, hi.at fun o q => k it (by simp) o q, hne⟩
  item := by
    intro X hP hw hK hc i pins s σ H E I hf st hg
    subst hP hw hK
    obtain ⟨⟨old, he⟩, hit, hne, hea, hai⟩ := st
    obtain ⟨xs, x, hq, hx⟩ := hg
    obtain ⟨its, rv, p, hz⟩ := I.tuple hq
    obtain ⟨u, hu, ru⟩ := rv.get hx
    have hel : e < s.heap.objs.size := Heap.lt_size he
    have hil : it < s.heap.objs.size := by obtain ⟨_, q, _⟩ := hit; exact Heap.lt_size q
    have hii : i < its.toArray.size := by
      have := (List.getElem?_eq_some_iff.mp hu).1
      simpa using this
    refine wpAny_pyNext_enum_itemD (Draws.tuple (A := X.A.in1) (I.ok.hd hc) it a hai its.toArray) he ⟨hit, (show s.heap.IsTuple a its.toArray from p)⟩ hii hne (by simp [hne, hea]) fun y h' tk hy ho hst hT hsz hk => ?_
    have hy : its.toArray[i]? = some y := hy
    rw [List.getElem?_toArray, hu] at hy
    cases hy
    refine ⟨_, rfl, wpAny_letOwnedTupleGo_enum (s := { s with heap := h', toks := tk + 1 }) ho fun h'' he' sb => ?_⟩
    have hT2 : h''.get? s.heap.objs.size = some { cls := .type "tuple", data := .seq #[.int i tk, u] } := (sb.2 _ (Nat.ne_of_gt hel)).trans hT
    have new : ObjOk X.prog X.w (L2.upd H s.heap.objs.size (.tup [.int (i : Nat), x])) h'' s.heap.objs.size (.tup [.int (i : Nat), x]) :=
      ⟨by show 2 ≤ sizeLine; decide, [.int i tk, u], .cons ⟨_, rfl⟩ (.cons ru .nil), ⟨_, hT2, rfl, _, rfl⟩⟩
    have I1 : Inv X pins σ (L2.upd H s.heap.objs.size (.tup [.int (i : Nat), x])) { s with heap := h'', toks := tk + 1 } :=
      I.turnedNew (ch := [e, it]) (fun b ob hb q => (sb.2 b (fun z => hb (by simp [z]))).trans (hk b ob (fun z => hb (by simp [z])) (fun z => hb (by simp [z])) q)) hf (Nat.le_refl _) new
    refine ⟨.ref s.heap.objs.size, _, I1, rfl, ⟨_, x, rfl, I.hok.fresh (Nat.le_refl _), rfl, fun ys hy => by rw [I.tuple_inj hy hq]; exact hx⟩, ⟨⟨u, ?_⟩, hst.1.at fun o q => (sb.2 it (Ne.symm hne)).trans q, hne, hea, hai⟩, fun b hb => ?_⟩
    · have e1 : ((i + 1 : Nat) : Int) = (i : Int) + 1 := by omega
      rw [e1]; exact he'
    · have hb' : b < s.heap.objs.size := by
        have e' : b = e ∨ b = it := by simpa using hb
        rcases e' with z | z
        · rw [z]; exact hel
        · rw [z]; exact hil
      rw [upd_ne (Nat.ne_of_lt hb')]
      exact (hf b hb).1
  done := by
    intro X hP hw hK hc i pins s σ H E I hf st hg
    subst hP hw hK
    obtain ⟨⟨old, he⟩, hit, hne⟩ := st
    obtain ⟨xs, hq, hx⟩ := hg
    obtain ⟨its, rv, p, hz⟩ := I.tuple hq
    obtain ⟨f0, f1, f2, f3, f4, f5⟩ := hf it (by simp)
    have hl := rv.length
    exact enumT_end (I.ok.hd hc) he hit (show s.heap.IsTuple _ its.toArray from p) (by simp; omega) fun h' eb => ⟨rfl, I.turned (t' := s.toks) (fun b o hb q => eb b o hb q) f0 f1 f3 f4 f5⟩
  self := fun A i s Q E st h => let ⟨⟨_, he⟩, _⟩ := st; wpAny_pyIter_enum he h
def iEnumT (K : PySem.W.Frag) (ta : TA) : TI := fun σ H R => ta σ H fun vs H1 => ∃ a xs, vs = [.ref a] ∧ SqT K H1 a xs ∧ R (IteT K a) H1
theorem pi_enumT {X : Cx} {e : Expr} {ta : TA} {p pos tpos : Pos} {elts : List Expr} {kk : Nat} (hg : Gl X "enumerate") (hm : X.mg "enumerate" = none) (ha : PA X [e] ta) (hs : starEach [e] X.env = [(false, eval e X.env)] := by rfl) :
    PI X (.Tuple elts kk tpos) (.Call (.Name "enumerate" p) [e] [] pos) (iEnumT X.K ta) := by
  refine ⟨fun pins s σ H R I h => ?_⟩
  refine Call_ (ld_blt I hg hm boot_enumerate (PyProof.Rows.callWith_type1 (thn (ha.run pos pins s σ H _ I h) fun us s1 ⟨vs, H1, I1, r1, q1⟩ => ?_) hs rfl))
  obtain ⟨a, xs, ex, hq, q⟩ := q1
  subst ex
  cases r1 with
  | cons r rr =>
    cases rr
    cases r
    obtain ⟨its, rv, p', hz⟩ := I1.tuple hq
    have al : a < s1.heap.objs.size := by obtain ⟨_, q, _⟩ := id p'; exact Heap.lt_size q
    refine call_enumT (show s1.heap.IsTuple a its.toArray from p') fun h' he hit hsz hk => wpAny_pyIter_enum he ?_
    have I2 : Inv X pins σ H1 { s1 with heap := h' } := I1.kept (t' := s1.toks) hk
    refine ⟨s1.heap.objs.size + 1, [s1.heap.objs.size + 1, s1.heap.objs.size], _, _, H1, rfl, I2, turn_enumT a (s1.heap.objs.size + 1) s1.heap.objs.size, ⟨⟨.none, he⟩, hit, Nat.succ_ne_self _, Nat.ne_of_gt (Nat.lt_succ_of_lt al), Nat.ne_of_lt al⟩, fun b hb => ?_, q⟩
    have e' : b = s1.heap.objs.size + 1 ∨ b = s1.heap.objs.size := by simpa using hb
    have hle : s1.heap.objs.size ≤ b := by
      rcases e' with z | z
      · rw [z]; exact Nat.le_add_right _ _
      · rw [z]; exact Nat.le_refl _
    exact I1.fpOk hle (I1.hok.fresh hle)
section
variable {X : Cx} {e : Expr} {te : ATE} {pos : Pos}
def wEnumT (te : ATE) : ATI := fun a m q => te a m fun x m1 => match x with
  | .tup xs => q (enumA 0 xs) (fun _ => True) m1
  | _ => False
theorem ai_enumT {p tpos : Pos} {elts : List Expr} {kk : Nat} (hg : Gl X "enumerate") (hm : X.mg "enumerate" = none) (h : AE X e te) (hs : starEach [e] X.env = [(false, eval e X.env)] := by rfl) :
    AI X (.Tuple elts kk tpos) (.Call (.Name "enumerate" p) [e] [] pos) (wEnumT te) := piI (pi_enumT hg hm (pa_cons h pa_nil hs) hs) fun σ H R ⟨a, m, q, h1, h2, h3, h4⟩ => by
  refine ⟨a, m, _, h1, h2, h3, fun x m1 v H1 l1 g1 r1 q1 => ?_⟩
  cases x with
  | tup xs =>
    cases r1 with
    | tup f0 f2 =>
      rename_i ad ws
      have f1 := f0.sq
      refine ⟨ad, ws, rfl, f1, h4 _ _ m1 _ H1 l1 g1 ⟨fun i H' m' l g e i1 => ?_, fun i H' m' v H2 x l g e e2 y => ?_, fun i H' m' l g e i1 => ?_⟩ q1⟩
      · rw [enumA_len] at i1
        have : i < ws.length := by rw [← f2.length]; exact i1
        exact ⟨ws, ws[i], l.tup _ _ f1, List.getElem?_eq_getElem this⟩
      · obtain ⟨T, u, rfl, hT, rfl, y⟩ := y
        rw [enumA_get] at e2
        cases e3 : xs[i]? with
        | none => rw [e3] at e2; cases e2
        | some x' =>
          rw [e3, Nat.zero_add] at e2
          cases e2
          obtain ⟨v', e4, r4⟩ := f2.get e3
          have := y _ (l.tup _ _ f1)
          rw [e4] at this; cases this
          exact newT_sim g hT (.cons (.int _) (.cons (r4.mono l) .nil))
      · rw [enumA_len] at i1
        exact ⟨_, l.tup _ _ f1, by rw [← f2.length]; exact i1⟩
  | _ => exact (show False from q1).elim
end
end Ab

namespace Ab
open PySem PySem.Spec PyProof.Rows L2
theorem eqA_tt (a b c d : AV) : eqA (.tup [a, b]) (.tup [c, d]) = (eqA a c && eqA b d) := by
  unfold eqA
  simp only [toD, toDs]
  rw [PyData.eqv, PyData.eqvAll, PyData.eqvAll, PyData.eqvAll, Bool.and_true]
theorem eqA_t2 (a b : AV) : eqA (.tup [a, b]) (.tup []) = false := eqA_t0
theorem eqA_t3 (a b : AV) : eqA (.tup []) (.tup [a, b]) = false := by
  unfold eqA
  simp only [toD, toDs]
  rw [PyData.eqv, PyData.eqvAll]
  all_goals simp
theorem eqA_ss (a b : Str) : eqA (.str a) (.str b) = decide (a = b) := by
  unfold eqA
  simp only [toD, PyData.eqv]
  rfl
theorem eqA_si (a : Str) (i : Int) : eqA (.str a) (.int i) = false := by
  unfold eqA
  simp only [toD, PyData.eqv]
theorem eqA_it (i : Int) (xs : List AV) : eqA (.int i) (.tup xs) = false := by
  unfold eqA
  simp only [toD, PyData.eqv]
theorem eqA_ti (i : Int) (xs : List AV) : eqA (.tup xs) (.int i) = false := by
  unfold eqA
  simp only [toD, PyData.eqv]
theorem eqA_st (w : Str) (xs : List AV) : eqA (.str w) (.tup xs) = false := by
  unfold eqA
  simp only [toD, PyData.eqv]
theorem eqA_tm {A A' U U' : Int → Prop} : ∀ {t u : Trm}, t.ok A U → u.ok A' U' → (eqA t.av u.av = true ↔ t = u) := by
  have word : ∀ (w : Str), Word w → decide (w = Str.ofString "?") = false ∧ decide (Str.ofString "?" = w) = false := fun w hw =>
    ⟨decide_eq_false hw.ne, decide_eq_false fun e => hw.ne e.symm⟩
  intro t
  induction t with
  | num i =>
    intro u h1 h2
    cases u <;> simp only [Trm.av, eqA_int, eqA_is, eqA_it, decide_eq_true_eq, Trm.num.injEq, reduceCtorEq, Bool.false_eq_true]
  | wd w =>
    intro u h1 h2
    cases u <;> simp only [Trm.av, eqA_ss, eqA_si, eqA_st, decide_eq_true_eq, Trm.wd.injEq, reduceCtorEq, Bool.false_eq_true]
  | nil =>
    intro u h1 h2
    cases u <;> simp only [Trm.av, eqA_ti, eqA_ts, eqA_00, eqA_t3, reduceCtorEq, Bool.false_eq_true]
  | unk i =>
    intro u h1 h2
    cases u with
    | pair a b =>
      have e : eqA (.str (Str.ofString "?")) a.av = false := by
        cases a with
        | wd w => simp only [Trm.av, eqA_ss]; exact (word w h2.1).2
        | _ => simp only [Trm.av, eqA_si, eqA_st]
      simp only [Trm.av, eqA_tt, e, Bool.false_and, reduceCtorEq, Bool.false_eq_true]
    | _ => simp only [Trm.av, eqA_tt, eqA_ti, eqA_ts, eqA_t2, eqA_ss, eqA_int, decide_true, Bool.true_and, decide_eq_true_eq, Trm.unk.injEq, reduceCtorEq, Bool.false_eq_true]
  | pair a b iha ihb =>
    intro u h1 h2
    cases u with
    | unk j =>
      have e : eqA a.av (.str (Str.ofString "?")) = false := by
        cases a with
        | wd w => simp only [Trm.av, eqA_ss]; exact (word w h1.1).1
        | _ => simp only [Trm.av, eqA_is, eqA_ts]
      simp only [Trm.av, eqA_tt, e, Bool.false_and, reduceCtorEq, Bool.false_eq_true]
    | pair c d =>
      simp only [Trm.av, eqA_tt, Bool.and_eq_true, Trm.pair.injEq, iha h1.1 h2.1, ihb h1.2 h2.2]
    | _ => simp only [Trm.av, eqA_ti, eqA_ts, eqA_t2, reduceCtorEq, Bool.false_eq_true]
section
variable {m : AHp} {q : AK}
theorem bq_tm {A A' U U' : Int → Prop} {t u : Trm} (h1 : t.ok A U) (h2 : u.ok A' U') (hd : t.deep ≤ 100) (f : Bool → Bool) {b : Bool} (hb : b = true ↔ t = u) : bEqB f t.av u.av m q = q (.bl (f b)) m := by
  have e : eqA t.av u.av = b := by
    have := eqA_tm h1 h2
    cases hq : eqA t.av u.av with
    | true => exact (hb.mpr (this.mp hq)).symm
    | false =>
      cases b with
      | false => rfl
      | true => rw [this.mpr (hb.mp rfl)] at hq; cases hq
  have d1 := Trm.depth_le t
  have c1 := Trm.can h1
  have c2 := Trm.can h2
  have main : (canA t.av = true ∧ canA u.av = true ∧ min (toD t.av).depth (toD u.av).depth ≤ 100 ∧ q (.bl (f (eqA t.av u.av))) m) = q (.bl (f b)) m := by
    rw [e]
    exact and_four c1 c2 (by omega)
  cases t <;> cases u <;> first
    | exact main
    | (simp only [Trm.av, eqA_int, eqA_ss] at e
       simp only [Trm.av, bEqB, e])
end
inductive Oc (B : Bnd) (x : Int) : Trm → Nat → Prop
  | here : Oc B x (.unk x) 0
  | go {n : Int} {s : Trm} {k : Nat} : B n = some s → Oc B x s k → Oc B x (.unk n) (k + 1)
  | left {a b : Trm} {k : Nat} : Oc B x a k → Oc B x (.pair a b) (k + 1)
  | right {a b : Trm} {k : Nat} : Oc B x b k → Oc B x (.pair a b) (k + 1)
theorem Res.oc {B : Bnd} {x : Int} {t r : Trm} (h : Res B t r) (hx : B x = none) : x ∈ r.nums ↔ ∃ k, Oc B x t k := by
  induction h with
  | num i => exact ⟨fun z => by simp [Trm.nums] at z, fun ⟨k, z⟩ => by cases z⟩
  | wd w => exact ⟨fun z => by simp [Trm.nums] at z, fun ⟨k, z⟩ => by cases z⟩
  | nil => exact ⟨fun z => by simp [Trm.nums] at z, fun ⟨k, z⟩ => by cases z⟩
  | free e =>
    constructor
    · intro z
      simp only [Trm.nums, List.mem_singleton] at z
      subst z
      exact ⟨0, .here⟩
    · rintro ⟨k, z⟩
      cases z with
      | here => simp [Trm.nums]
      | go e2 _ => rw [e] at e2; cases e2
  | bound e _ ih =>
    rw [ih]
    constructor
    · rintro ⟨k, z⟩
      exact ⟨k + 1, .go e z⟩
    · rintro ⟨k, z⟩
      cases z with
      | here => rw [hx] at e; cases e
      | go e2 z => rw [e] at e2; cases e2; exact ⟨_, z⟩
  | pair _ _ ih1 ih2 =>
    simp only [Trm.nums, List.mem_append, ih1, ih2]
    constructor
    · rintro (⟨k, z⟩ | ⟨k, z⟩)
      · exact ⟨k + 1, .left z⟩
      · exact ⟨k + 1, .right z⟩
    · rintro ⟨k, z⟩
      cases z with
      | left z => exact .inl ⟨_, z⟩
      | right z => exact .inr ⟨_, z⟩
theorem least {p : Nat → Prop} : ∀ {n : Nat}, p n → ∃ k, k ≤ n ∧ p k ∧ ∀ j, j < k → ¬ p j := by
  intro n
  induction n using Nat.strongRecOn with
  | ind n ih =>
    intro h
    by_cases z : ∃ j, j < n ∧ p j
    · obtain ⟨j, hj, hp⟩ := z
      obtain ⟨k, h1, h2, h3⟩ := ih j hj hp
      exact ⟨k, by omega, h2, h3⟩
    · exact ⟨n, Nat.le_refl _, h, fun j hj hp => z ⟨j, hj, hp⟩⟩
def Srch (B : Bnd) (x : Int) (t : Trm) (W : List Trm) (M : List Int) : Prop :=
  (∀ w ∈ W, ∀ k, Oc B x w k → ∃ j, Oc B x t j) ∧ ((∃ j, Oc B x t j) → ∃ w ∈ W, ∃ k, Oc B x w k ∧ ∀ m ∈ M, ∀ j, Oc B x (.unk m) j → k < j)
theorem Srch.start {B : Bnd} {x : Int} {t : Trm} : Srch B x t [t] [] := by
  refine ⟨fun w hw k h => ?_, fun ⟨j, h⟩ => ⟨t, List.mem_singleton.mpr rfl, j, h, fun _ h => absurd h List.not_mem_nil⟩⟩
  rw [List.mem_singleton.mp hw] at h
  exact ⟨k, h⟩
theorem Srch.over {B : Bnd} {x : Int} {t : Trm} {M : List Int} (h : Srch B x t [] M) : ¬ ∃ j, Oc B x t j := fun z => by
  obtain ⟨w, hw, _⟩ := h.2 z
  exact absurd hw List.not_mem_nil
theorem Srch.found {B : Bnd} {x : Int} {t : Trm} {W : List Trm} {M : List Int} (h : Srch B x t (.unk x :: W) M) : ∃ j, Oc B x t j := h.1 _ List.mem_cons_self 0 .here
theorem Srch.pair {B : Bnd} {x : Int} {t a b : Trm} {W : List Trm} {M : List Int} (h : Srch B x t (.pair a b :: W) M) : Srch B x t (b :: a :: W) M := by
  refine ⟨fun w hw k z => ?_, fun z => ?_⟩
  · rcases List.mem_cons.mp hw with rfl | hw
    · exact h.1 _ List.mem_cons_self _ (.right z)
    rcases List.mem_cons.mp hw with rfl | hw
    · exact h.1 _ List.mem_cons_self _ (.left z)
    exact h.1 w (List.mem_cons_of_mem _ hw) k z
  · obtain ⟨w, hw, k, hk, hM⟩ := h.2 z
    rcases List.mem_cons.mp hw with rfl | hw
    · cases hk with
      | left hk => exact ⟨a, by simp, _, hk, fun m hm j hj => by have := hM m hm j hj; omega⟩
      | right hk => exact ⟨b, by simp, _, hk, fun m hm j hj => by have := hM m hm j hj; omega⟩
    · exact ⟨w, by simp [hw], k, hk, hM⟩
theorem Srch.drop {B : Bnd} {x : Int} {t u : Trm} {W : List Trm} {M : List Int} (h : Srch B x t (u :: W) M) (hu : (∀ k, ¬ Oc B x u k) ∨ ∃ n ∈ M, u = .unk n) : Srch B x t W M := by
  refine ⟨fun w hw k z => h.1 w (List.mem_cons_of_mem _ hw) k z, fun z => ?_⟩
  obtain ⟨w, hw, k, hk, hM⟩ := h.2 z
  rcases List.mem_cons.mp hw with rfl | hw
  · rcases hu with hu | ⟨n, hn, rfl⟩
    · exact absurd hk (hu k)
    · exact absurd (hM n hn k hk) (Nat.lt_irrefl _)
  · exact ⟨w, hw, k, hk, hM⟩
theorem Srch.meet {B : Bnd} {x n : Int} {t : Trm} {W : List Trm} {M : List Int} (h : Srch B x t (.unk n :: W) M) (hn : n ≠ x) : match B n with
    | none => Srch B x t W (M ++ [n])
    | some s => Srch B x t (s :: W) (M ++ [n]) := by
  cases e : B n with
  | none =>
    have no : ∀ k, ¬ Oc B x (.unk n) k := fun k z => by
      cases z with
      | here => exact hn rfl
      | go e2 _ => rw [e] at e2; cases e2
    refine ⟨fun w hw k z => h.1 w (List.mem_cons_of_mem _ hw) k z, fun z => ?_⟩
    obtain ⟨w, hw, k, hk, hM⟩ := h.2 z
    rcases List.mem_cons.mp hw with rfl | hw
    · exact absurd hk (no k)
    · refine ⟨w, hw, k, hk, fun m hm j hj => ?_⟩
      rcases List.mem_append.mp hm with hm | hm
      · exact hM m hm j hj
      · rw [List.mem_singleton.mp hm] at hj; exact absurd hj (no j)
  | some s =>
    refine ⟨fun w hw k z => ?_, fun z => ?_⟩
    · rcases List.mem_cons.mp hw with rfl | hw
      · exact h.1 _ List.mem_cons_self _ (.go e z)
      · exact h.1 w (List.mem_cons_of_mem _ hw) k z
    · obtain ⟨w, hw, k, hk, hM⟩ := h.2 z
      by_cases c : ∃ j, j ≤ k ∧ Oc B x (.unk n) j
      · obtain ⟨j, hj, oj⟩ := c
        obtain ⟨i, h1, h2, h3⟩ := least (p := fun j => Oc B x (.unk n) j) oj
        cases h2 with
        | here => exact absurd rfl hn
        | @go _ s' i e2 h2 =>
          rw [e] at e2
          cases e2
          refine ⟨s, List.mem_cons_self, i, h2, fun m hm j' hj' => ?_⟩
          rcases List.mem_append.mp hm with hm | hm
          · have := hM m hm j' hj'
            omega
          · rw [List.mem_singleton.mp hm] at hj'
            rcases Nat.lt_or_ge j' (i + 1) with z | z
            · exact absurd hj' (h3 j' z)
            · omega
      · rcases List.mem_cons.mp hw with rfl | hw
        · exact absurd ⟨k, Nat.le_refl _, hk⟩ c
        · refine ⟨w, List.mem_cons_of_mem _ hw, k, hk, fun m hm j hj => ?_⟩
          rcases List.mem_append.mp hm with hm | hm
          · exact hM m hm j hj
          · rw [List.mem_singleton.mp hm] at hj
            rcases Nat.lt_or_ge k j with z | z
            · exact z
            · exact absurd ⟨j, z, hj⟩ c
def left (F : List (Int × Trm)) (M : List Int) : Nat := ((F.filter fun p => !decide (p.1 ∈ M)).map fun p => p.2.size).sum
theorem left_le (F : List (Int × Trm)) (M : List Int) : left F M ≤ (F.map fun p => p.2.size).sum := by
  unfold left
  induction F with
  | nil => exact Nat.le_refl _
  | cons p F ih =>
    by_cases h : p.1 ∈ M
    · rw [List.filter_cons_of_neg (by simp [h]), List.map_cons, List.sum_cons]
      omega
    · rw [List.filter_cons_of_pos (by simp [h]), List.map_cons, List.sum_cons, List.map_cons, List.sum_cons]
      omega
theorem left_none {F : List (Int × Trm)} {M : List Int} {n : Int} : left F (M ++ [n]) ≤ left F M := by
  unfold left
  induction F with
  | nil => exact Nat.le_refl _
  | cons p F ih =>
    by_cases h : p.1 ∈ M
    · rw [List.filter_cons_of_neg (by simp [h]), List.filter_cons_of_neg (by simp [h])]
      exact ih
    · rw [List.filter_cons_of_pos (p := fun q : Int × Trm => !decide (q.1 ∈ M)) (by simp [h]), List.map_cons, List.sum_cons]
      by_cases h2 : p.1 = n
      · rw [List.filter_cons_of_neg (by simp [h2])]
        omega
      · rw [List.filter_cons_of_pos (by simp [h, h2]), List.map_cons, List.sum_cons]
        omega
theorem left_some {M : List Int} {n : Int} {s : Trm} (hn : n ∉ M) : ∀ {F : List (Int × Trm)}, look F n = some s → left F (M ++ [n]) + s.size ≤ left F M
  | (k, t) :: F, h => by
    simp only [look] at h
    by_cases hk : k = n
    · rw [if_pos hk] at h
      cases h
      have := left_none (F := F) (M := M) (n := n)
      unfold left at this ⊢
      rw [List.filter_cons_of_neg (by simp [hk]), List.filter_cons_of_pos (p := fun q : Int × Trm => !decide (q.1 ∈ M)) (by simp [hk, hn]), List.map_cons, List.sum_cons]
      show _ + s.size ≤ s.size + _
      omega
    · rw [if_neg hk] at h
      have ih := left_some hn h
      unfold left at ih ⊢
      by_cases hm : k ∈ M
      · rw [List.filter_cons_of_neg (by simp [hm]), List.filter_cons_of_neg (by simp [hm])]
        exact ih
      · rw [List.filter_cons_of_pos (by simp [hm, hk]), List.filter_cons_of_pos (p := fun q : Int × Trm => !decide (q.1 ∈ M)) (by simp [hm]), List.map_cons, List.sum_cons, List.map_cons, List.sum_cons]
        omega
theorem rise_ext : ∀ {xs ys : List Int}, xs.Pairwise (· < ·) → ys.Pairwise (· < ·) → (∀ k, k ∈ xs ↔ k ∈ ys) → xs = ys
  | [], [], _, _, _ => rfl
  | [], y :: ys, _, _, h => absurd ((h y).mpr List.mem_cons_self) List.not_mem_nil
  | x :: xs, [], _, _, h => absurd ((h x).mp List.mem_cons_self) List.not_mem_nil
  | x :: xs, y :: ys, h1, h2, h => by
    rw [List.pairwise_cons] at h1 h2
    have e : x = y := by
      rcases List.mem_cons.mp ((h x).mp List.mem_cons_self) with e | hx
      · exact e
      rcases List.mem_cons.mp ((h y).mpr List.mem_cons_self) with e | hy
      · exact e.symm
      have := h2.1 x hx
      have := h1.1 y hy
      omega
    subst e
    congr 1
    refine rise_ext h1.2 h2.2 fun k => ?_
    constructor
    · intro hk
      rcases List.mem_cons.mp ((h k).mp (List.mem_cons_of_mem _ hk)) with e | z
      · have := h1.1 k hk; omega
      · exact z
    · intro hk
      rcases List.mem_cons.mp ((h k).mpr (List.mem_cons_of_mem _ hk)) with e | z
      · have := h2.1 k hk; omega
      · exact z
def fillAv (ks : List Int) (G : Bnd) : AV := .tup (ks.map fun k => .tup [.int k, (sig G k).av])
structure Keys (G : Bnd) (ks : List Int) : Prop where
  up : ks.Pairwise (· < ·)
  mem : ∀ k, k ∈ ks ↔ G k ≠ none
theorem Keys.uniq {G : Bnd} {ks js : List Int} (h1 : Keys G ks) (h2 : Keys G js) : ks = js := rise_ext h1.up h2.up fun k => (h1.mem k).trans (h2.mem k).symm
end Ab

namespace Ab
open PySem PySem.Spec PyProof.Rows L2
theorem sub_len : ∀ {ys V : List Int}, ys.Nodup → (∀ k ∈ ys, k ∈ V) → ys.length ≤ V.length
  | [], V, _, _ => Nat.zero_le _
  | y :: ys, V, h, hs => by
    have hy := hs y List.mem_cons_self
    rw [List.nodup_cons] at h
    have h2 := sub_len (ys := ys) (V := V.filter fun k => decide (k ≠ y)) h.2 fun k hk => List.mem_filter.mpr ⟨hs k (List.mem_cons_of_mem _ hk), decide_eq_true fun e => h.1 (e ▸ hk)⟩
    have h3 := filter_lt hy
    rw [List.length_cons]
    omega
theorem Trm.size_pos' (t : Trm) : 1 ≤ t.size := by
  have := Trm.size_pairs t
  omega
theorem size_subst1 {k : Int} {s : Trm} : ∀ t : Trm, (t.subst (one1 k s)).size ≤ t.size * s.size
  | .num _ => by have := s.size_pos'; simp only [Trm.subst, Trm.size]; omega
  | .wd _ => by have := s.size_pos'; simp only [Trm.subst, Trm.size]; omega
  | .nil => by have := s.size_pos'; simp only [Trm.subst, Trm.size]; omega
  | .unk n => by
    have := s.size_pos'
    simp only [Trm.subst, one1, Trm.size]
    split
    · omega
    · simp only [Trm.size]; omega
  | .pair a b => by
    have h1 := size_subst1 (k := k) (s := s) a
    have h2 := size_subst1 (k := k) (s := s) b
    have := s.size_pos'
    simp only [Trm.subst, Trm.size, Nat.add_mul, Nat.one_mul] at h1 h2 ⊢
    omega
structure Rw (A U : Int → Prop) (V : List Int) (F : List (Int × Trm)) : Prop where
  nd : (F.map (·.1)).Nodup
  ok : ∀ p ∈ F, p.2.ok A U ∧ p.2.size ≤ 300 ∧ p.2.deep ≤ 60
  keys : ∀ p ∈ F, p.1 ∈ V
  nums : ∀ p ∈ F, ∀ k ∈ p.2.nums, k ∈ V
  solved : Solved (look F)
theorem Rw.len {A U : Int → Prop} {V : List Int} {F : List (Int × Trm)} (h : Rw A U V F) : F.length ≤ V.length := by
  have := sub_len h.nd (V := V) fun k hk => by
    obtain ⟨p, hp, rfl⟩ := List.mem_map.mp hk
    exact h.keys p hp
  rwa [List.length_map] at this
theorem Rw.nil {A U : Int → Prop} {V : List Int} : Rw A U V [] :=
  ⟨List.nodup_nil, fun _ h => absurd h List.not_mem_nil, fun _ h => absurd h List.not_mem_nil, fun _ h => absurd h List.not_mem_nil, ⟨fun _ _ h => (by cases h), fun _ _ h => (by cases h)⟩⟩
def bindR (k : Int) (t : Trm) (F : List (Int × Trm)) : List (Int × Trm) := (k, t) :: F.map fun p => (p.1, p.2.subst (one1 k t))
theorem look_map (f : Trm → Trm) : ∀ (F : List (Int × Trm)) (n : Int), look (F.map fun p => (p.1, f p.2)) n = (look F n).map f
  | [], n => rfl
  | (k, t) :: F, n => by
    simp only [List.map_cons, look]
    by_cases h : k = n
    · rw [if_pos h, if_pos h]; rfl
    · rw [if_neg h, if_neg h, look_map f F n]
theorem look_bind {k : Int} {t : Trm} {F : List (Int × Trm)} {n : Int} : look (bindR k t F) n = if k = n then some t else (look F n).map (·.subst (one1 k t)) := by
  unfold bindR
  simp only [look]
  rw [look_map (fun u => u.subst (one1 k t))]
theorem sig_bind {k : Int} {t : Trm} {F : List (Int × Trm)} (hk : look F k = none) (n : Int) : sig (look (bindR k t F)) n = (sig (look F) n).subst (one1 k t) := by
  unfold sig
  rw [look_bind]
  by_cases h : k = n
  · subst h
    rw [if_pos rfl, hk]
    simp [Trm.subst, one1]
  · rw [if_neg h]
    cases e : look F n with
    | none =>
      have : ¬ n = k := fun z => h z.symm
      simp [Trm.subst, one1, this]
    | some u => rfl
theorem subst_bind {k : Int} {t : Trm} {F : List (Int × Trm)} (hk : look F k = none) (u : Trm) : u.subst (sig (look (bindR k t F))) = (u.subst (sig (look F))).subst (one1 k t) := by
  rw [Trm.subst_subst]
  exact Trm.subst_congr fun n _ => sig_bind hk n
theorem sig_free {F : Bnd} (h : Solved F) {t : Trm} {k : Int} (hk : k ∈ (t.subst (sig F)).nums) : F k = none := by
  obtain ⟨n, _, hk⟩ := Trm.subst_nums.mp hk
  unfold sig at hk
  cases e : F n with
  | none =>
    rw [e] at hk
    have : k = n := by simpa [Trm.nums] using hk
    rw [this]; exact e
  | some u => rw [e] at hk; exact h.free n u e k hk
theorem sat_sig {F : Bnd} {s : Int → Trm} (h : SatB s F) (t : Trm) : (t.subst (sig F)).subst s = t.subst s := by
  rw [Trm.subst_subst]
  exact Trm.subst_congr fun n _ => sat_comp h n
theorem sub_one {k : Int} {t : Trm} {s : Int → Trm} (e : s k = t.subst s) (u : Trm) : (u.subst (one1 k t)).subst s = u.subst s := by
  rw [Trm.subst_subst]
  refine Trm.subst_congr fun n _ => ?_
  unfold one1
  by_cases h : n = k
  · rw [if_pos h, h]; exact e.symm
  · rw [if_neg h]; rfl
theorem sat_bind {k : Int} {t : Trm} {F : List (Int × Trm)} {s : Int → Trm} (hk : look F k = none) : SatB s (look (bindR k t F)) ↔ SatB s (look F) ∧ s k = t.subst s := by
  constructor
  · intro h
    have e : s k = t.subst s := h k t (by rw [look_bind, if_pos rfl])
    refine ⟨fun n u en => ?_, e⟩
    have ne : ¬ k = n := fun z => by rw [← z, hk] at en; cases en
    have := h n (u.subst (one1 k t)) (by rw [look_bind, if_neg ne, en]; rfl)
    rw [this, sub_one e]
  · rintro ⟨h, e⟩ n u en
    rw [look_bind] at en
    by_cases h2 : k = n
    · rw [if_pos h2] at en
      cases en
      rw [← h2]; exact e
    · rw [if_neg h2] at en
      cases e3 : look F n with
      | none => rw [e3] at en; cases en
      | some v =>
        rw [e3] at en
        cases en
        rw [sub_one e]
        exact h n v e3
theorem one_nums {k : Int} {t u : Trm} {j : Int} (h : j ∈ (u.subst (one1 k t)).nums) : (j ∈ u.nums ∧ j ≠ k) ∨ j ∈ t.nums := by
  obtain ⟨n, hn, hj⟩ := Trm.subst_nums.mp h
  unfold one1 at hj
  by_cases e : n = k
  · rw [if_pos e] at hj; exact .inr hj
  · rw [if_neg e] at hj
    have : j = n := by simpa [Trm.nums] using hj
    subst this
    exact .inl ⟨hn, e⟩
theorem solved_bind {k : Int} {t : Trm} {F : List (Int × Trm)} (h : Solved (look F)) (hk : look F k = none) (ht : ∀ j ∈ t.nums, look F j = none) (ho : k ∉ t.nums) (hl : ∀ j, t = .unk j → j < k) : Solved (look (bindR k t F)) := by
  have none_of : ∀ j, look F j = none → j ≠ k → look (bindR k t F) j = none := fun j e n => by
    rw [look_bind, if_neg fun z => n z.symm, e]; rfl
  refine ⟨fun n u en j hj => ?_, fun n j en => ?_⟩
  · rw [look_bind] at en
    by_cases e : k = n
    · rw [if_pos e] at en
      cases en
      exact none_of j (ht j hj) fun z => ho (z ▸ hj)
    · rw [if_neg e] at en
      cases e3 : look F n with
      | none => rw [e3] at en; cases en
      | some v =>
        rw [e3] at en
        cases en
        rcases one_nums hj with ⟨h1, h2⟩ | h1
        · exact none_of j (h.free n v e3 j h1) h2
        · exact none_of j (ht j h1) fun z => ho (z ▸ h1)
  · rw [look_bind] at en
    by_cases e : k = n
    · rw [if_pos e] at en
      cases en
      rw [← e]; exact hl j rfl
    · rw [if_neg e] at en
      cases e3 : look F n with
      | none => rw [e3] at en; cases en
      | some v =>
        rw [e3] at en
        have en : v.subst (one1 k t) = .unk j := by simpa using en
        cases v with
        | unk i =>
          have li := h.low n i e3
          simp only [Trm.subst, one1] at en
          by_cases z : i = k
          · rw [if_pos z] at en
            have := hl j en
            omega
          · rw [if_neg z] at en
            cases en
            exact li
        | _ => simp [Trm.subst] at en
theorem ok_subst {A U : Int → Prop} {s : Int → Trm} : ∀ {t : Trm}, t.ok A U → (∀ n ∈ t.nums, (s n).ok A U) → (t.subst s).ok A U
  | .num _, h, _ => h
  | .wd _, h, _ => h
  | .nil, _, _ => trivial
  | .unk n, _, h => h n (by simp [Trm.nums])
  | .pair a b, h, hs => ⟨ok_subst h.1 fun n hn => hs n (by simp [Trm.nums, hn]), ok_subst h.2 fun n hn => hs n (by simp [Trm.nums, hn])⟩
theorem ok_unk {A U : Int → Prop} : ∀ {t : Trm}, t.ok A U → ∀ n ∈ t.nums, (Trm.unk n).ok A U
  | .num _, _, n, h => by simp [Trm.nums] at h
  | .wd _, _, n, h => by simp [Trm.nums] at h
  | .nil, _, n, h => by simp [Trm.nums] at h
  | .unk k, h, n, hn => by
    simp only [Trm.nums, List.mem_singleton] at hn
    subst hn
    exact h
  | .pair a b, h, n, hn => by
    simp only [Trm.nums, List.mem_append] at hn
    exact hn.elim (ok_unk h.1 n) (ok_unk h.2 n)
theorem Rw.sig_ok {A U : Int → Prop} {V : List Int} {F : List (Int × Trm)} (h : Rw A U V F) {t : Trm} (ht : t.ok A U) : (t.subst (sig (look F))).ok A U := by
  refine ok_subst ht fun n hn => ?_
  unfold sig
  cases e : look F n with
  | none => exact ok_unk ht n hn
  | some u => exact (h.ok _ (look_mem e)).1
theorem Rw.sig_nums {A U : Int → Prop} {V : List Int} {F : List (Int × Trm)} (h : Rw A U V F) {t : Trm} (ht : ∀ k ∈ t.nums, k ∈ V) : ∀ k ∈ (t.subst (sig (look F))).nums, k ∈ V := by
  intro k hk
  obtain ⟨n, hn, hk⟩ := Trm.subst_nums.mp hk
  unfold sig at hk
  cases e : look F n with
  | none =>
    rw [e] at hk
    have : k = n := by simpa [Trm.nums] using hk
    rw [this]; exact ht n hn
  | some u => rw [e] at hk; exact h.nums _ (look_mem e) k hk
theorem deep_sub {s : Int → Trm} {D : Nat} : ∀ {t : Trm}, (∀ n ∈ t.nums, (s n).deep ≤ D) → (t.subst s).deep ≤ t.deep + D
  | .num _, _ => by simp only [Trm.subst, Trm.deep]; omega
  | .wd _, _ => by simp only [Trm.subst, Trm.deep]; omega
  | .nil, _ => by simp only [Trm.subst, Trm.deep]; omega
  | .unk n, h => by
    have := h n (by simp [Trm.nums])
    simp only [Trm.subst]
    omega
  | .pair a b, h => by
    have h1 := deep_sub (s := s) (D := D) (t := a) fun n hn => h n (by simp [Trm.nums, hn])
    have h2 := deep_sub (s := s) (D := D) (t := b) fun n hn => h n (by simp [Trm.nums, hn])
    simp only [Trm.subst, Trm.deep]
    omega
theorem Rw.sig_deep {A U : Int → Prop} {V : List Int} {F : List (Int × Trm)} (h : Rw A U V F) (t : Trm) : (t.subst (sig (look F))).deep ≤ t.deep + 60 := by
  refine deep_sub fun n _ => ?_
  unfold sig
  cases e : look F n with
  | none => exact (by decide : 1 ≤ 60)
  | some u => exact (h.ok _ (look_mem e)).2.2
theorem bind_mem {F : List (Int × Trm)} {k : Int} {t : Trm} {p : Int × Trm} (h : p ∈ bindR k t F) : p = (k, t) ∨ ∃ q ∈ F, p = (q.1, q.2.subst (one1 k t)) := by
  unfold bindR at h
  rcases List.mem_cons.mp h with h | h
  · exact .inl h
  · obtain ⟨q, hq, e⟩ := List.mem_map.mp h
    exact .inr ⟨q, hq, e.symm⟩
theorem Rw.bind {A U : Int → Prop} {V : List Int} {F : List (Int × Trm)} {k : Int} {t : Trm} (h : Rw A U V F) (hk : look F k = none) (kV : k ∈ V) (tV : ∀ j ∈ t.nums, j ∈ V) (ht : ∀ j ∈ t.nums, look F j = none) (ho : k ∉ t.nums) (hl : ∀ j, t = .unk j → j < k) (ot : t.ok A U)
    (far : ∀ p ∈ bindR k t F, p.2.size ≤ 300 ∧ p.2.deep ≤ 60) : Rw A U V (bindR k t F) := by
  refine ⟨?_, fun p hp => ⟨?_, far p hp⟩, fun p hp => ?_, fun p hp j hj => ?_, solved_bind h.solved hk ht ho hl⟩
  · unfold bindR
    rw [List.map_cons, List.map_map, List.nodup_cons]
    have e : F.map ((fun p => p.1) ∘ fun p => (p.1, p.2.subst (one1 k t))) = F.map (·.1) := rfl
    rw [e]
    exact ⟨look_none.mp hk, h.nd⟩
  · rcases bind_mem hp with rfl | ⟨q, hq, rfl⟩
    · exact ot
    · refine ok_subst (h.ok q hq).1 fun n hn => ?_
      unfold one1
      by_cases e : n = k
      · rw [if_pos e]; exact ot
      · rw [if_neg e]; exact ok_unk (h.ok q hq).1 n hn
  · rcases bind_mem hp with rfl | ⟨q, hq, rfl⟩
    · exact kV
    · exact h.keys q hq
  · rcases bind_mem hp with rfl | ⟨q, hq, rfl⟩
    · exact tV j hj
    · rcases one_nums hj with ⟨h1, _⟩ | h1
      · exact h.nums q hq j h1
      · exact tV j h1
def freeN (V : List Int) (F : List (Int × Trm)) : Nat := (V.filter fun k => (look F k).isNone).length
theorem freeN_bind {V : List Int} {F : List (Int × Trm)} {k : Int} {t : Trm} (hk : look F k = none) (kV : k ∈ V) : freeN V (bindR k t F) < freeN V F := by
  have e : (V.filter fun j => (look (bindR k t F) j).isNone) = (V.filter fun j => (look F j).isNone).filter fun j => decide (j ≠ k) := by
    rw [List.filter_filter]
    refine List.filter_congr fun j _ => ?_
    rw [look_bind]
    by_cases z : k = j
    · rw [if_pos z]; simp [z]
    · have : ¬ j = k := fun w => z w.symm
      rw [if_neg z]; simp [this]
  unfold freeN
  rw [e]
  exact filter_lt (List.mem_filter.mpr ⟨kV, by rw [hk]; rfl⟩)
def subW (F : List (Int × Trm)) (W : List (Trm × Trm)) : List (Trm × Trm) := W.map fun e => (e.1.subst (sig (look F)), e.2.subst (sig (look F)))
def meas (V : List Int) (F : List (Int × Trm)) (W : List (Trm × Trm)) : Nat := (1 + wsize (subW F W)) * 301 ^ freeN V F
theorem wsize_cons (e : Trm × Trm) (W : List (Trm × Trm)) : wsize (e :: W) = e.1.size + e.2.size + wsize W := by
  unfold wsize
  rw [List.map_cons, List.sum_cons]
theorem meas_lt {V : List Int} {F : List (Int × Trm)} {W W' : List (Trm × Trm)} (h : wsize (subW F W) < wsize (subW F W')) : meas V F W < meas V F W' := by
  unfold meas
  exact Nat.mul_lt_mul_of_pos_right (by omega) (Nat.pow_pos (by decide))
theorem subW_bind {F : List (Int × Trm)} {k : Int} {t : Trm} (hk : look F k = none) (W : List (Trm × Trm)) : subW (bindR k t F) W = (subW F W).map fun e => (e.1.subst (one1 k t), e.2.subst (one1 k t)) := by
  unfold subW
  rw [List.map_map]
  refine List.map_congr_left fun e _ => ?_
  simp only [Function.comp, subst_bind hk]
theorem wsize_sub {k : Int} {t : Trm} : ∀ W : List (Trm × Trm), wsize (W.map fun e => (e.1.subst (one1 k t), e.2.subst (one1 k t))) ≤ wsize W * t.size
  | [] => by simp [wsize]
  | e :: W => by
    have h1 := size_subst1 (k := k) (s := t) e.1
    have h2 := size_subst1 (k := k) (s := t) e.2
    have h3 := wsize_sub (k := k) (t := t) W
    rw [List.map_cons, wsize_cons, wsize_cons, Nat.add_mul, Nat.add_mul]
    simp only
    omega
structure Jn (A U : Int → Prop) (V : List Int) (R : List (Int × Trm)) (E : List (Trm × Trm)) (F : List (Int × Trm)) (W : List (Trm × Trm)) : Prop where
  rw : Rw A U V F
  ws : ∀ e ∈ W, (e.1.ok A U ∧ e.1.deep ≤ 60 ∧ ∀ k ∈ e.1.nums, k ∈ V) ∧ e.2.ok A U ∧ e.2.deep ≤ 60 ∧ ∀ k ∈ e.2.nums, k ∈ V
  eqv : ∀ s, (SatB s (look R) ∧ Sol s E) ↔ (SatB s (look F) ∧ Sol s W)
  stk : ∃ C, Stk C (subW F W) ∧ C + 60 * freeN V F ≤ 9000
section
variable {A U : Int → Prop} {V : List Int} {R F : List (Int × Trm)} {E W : List (Trm × Trm)} {a b : Trm}
theorem stk_mono {C D : Nat} (h : C ≤ D) : ∀ {R : List (Trm × Trm)}, Stk C R → Stk D R
  | [], _ => trivial
  | (a, b) :: R, ⟨h1, h2, h3⟩ => ⟨by omega, by omega, stk_mono h h3⟩
theorem Jn.len (h : Jn A U V R E F W) : W.length ≤ 9000 := by
  obtain ⟨C, hC, hl⟩ := h.stk
  cases W with
  | nil => exact Nat.zero_le _
  | cons e W =>
    have h1 : (subW F W).length + (e.1.subst (sig (look F))).deep ≤ C := hC.1
    have h2 := Trm.deep_pos (e.1.subst (sig (look F)))
    have h3 : (subW F W).length = W.length := List.length_map _
    rw [List.length_cons]
    omega
theorem Jn.sat (h : Jn A U V R E F ((a, b) :: W)) {s : Int → Trm} (hs : SatB s (look F)) : a.subst s = b.subst s ↔ (a.subst (sig (look F))).subst s = (b.subst (sig (look F))).subst s := by
  rw [sat_sig hs, sat_sig hs]
theorem Jn.same (h : Jn A U V R E F ((a, b) :: W)) (e : a.subst (sig (look F)) = b.subst (sig (look F))) : Jn A U V R E F W ∧ meas V F W < meas V F ((a, b) :: W) := by
  obtain ⟨C, hC, hl⟩ := h.stk
  refine ⟨⟨h.rw, fun x hx => h.ws x (List.mem_cons_of_mem _ hx), fun s => ?_, C, hC.2.2, hl⟩, meas_lt ?_⟩
  · rw [h.eqv s, sol_cons]
    constructor
    · exact fun z => ⟨z.1, z.2.2⟩
    · exact fun z => ⟨z.1, (h.sat z.1).mpr (by rw [e]), z.2⟩
  · show _ < wsize ((_, _) :: subW F W)
    rw [wsize_cons]
    have := (a.subst (sig (look F))).size_pos'
    simp only
    omega
theorem Jn.pairs {a1 a2 b1 b2 : Trm} (h : Jn A U V R E F ((a, b) :: W)) (ea : a.subst (sig (look F)) = .pair a1 a2) (eb : b.subst (sig (look F)) = .pair b1 b2) (da : (Trm.pair a1 a2).deep ≤ 60) (db : (Trm.pair b1 b2).deep ≤ 60) :
    Jn A U V R E F ((a1, b1) :: (a2, b2) :: W) ∧ meas V F ((a1, b1) :: (a2, b2) :: W) < meas V F ((a, b) :: W) := by
  obtain ⟨C, hC, hl⟩ := h.stk
  have hw := h.ws (a, b) List.mem_cons_self
  have oa := h.rw.sig_ok hw.1.1
  have ob := h.rw.sig_ok hw.2.1
  have na := h.rw.sig_nums hw.1.2.2
  have nb := h.rw.sig_nums hw.2.2.2
  have fa : ∀ k ∈ (a.subst (sig (look F))).nums, look F k = none := fun k hk => sig_free h.rw.solved hk
  have fb : ∀ k ∈ (b.subst (sig (look F))).nums, look F k = none := fun k hk => sig_free h.rw.solved hk
  rw [ea] at oa na fa
  rw [eb] at ob nb fb
  have self : ∀ {u v : Trm}, (∀ k ∈ u.nums, k ∈ v.nums) → (∀ k ∈ v.nums, look F k = none) → u.subst (sig (look F)) = u := fun hu hv => Trm.subst_same fun k hk => by
    unfold sig
    rw [hv k (hu k hk)]
    rfl
  have s1 := self (u := a1) (fun k hk => by simp [Trm.nums, hk]) fa
  have s2 := self (u := a2) (fun k hk => by simp [Trm.nums, hk]) fa
  have s3 := self (u := b1) (fun k hk => by simp [Trm.nums, hk]) fb
  have s4 := self (u := b2) (fun k hk => by simp [Trm.nums, hk]) fb
  simp only [Trm.deep] at da db
  have st : Stk C ((a.subst (sig (look F)), b.subst (sig (look F))) :: subW F W) := hC
  rw [ea, eb] at st
  obtain ⟨t1, t2, t3⟩ := st
  simp only [Trm.deep] at t1 t2
  have sw : subW F ((a1, b1) :: (a2, b2) :: W) = (a1, b1) :: (a2, b2) :: subW F W := by
    show (_, _) :: (_, _) :: subW F W = _
    simp only [s1, s2, s3, s4]
  refine ⟨⟨h.rw, fun x hx => ?_, fun s => ?_, C, ?_, hl⟩, meas_lt ?_⟩
  · rcases List.mem_cons.mp hx with rfl | hx
    · exact ⟨⟨oa.1, by simp only; omega, fun k hk => na k (by simp [Trm.nums, hk])⟩, ob.1, by simp only; omega, fun k hk => nb k (by simp [Trm.nums, hk])⟩
    rcases List.mem_cons.mp hx with rfl | hx
    · exact ⟨⟨oa.2, by simp only; omega, fun k hk => na k (by simp [Trm.nums, hk])⟩, ob.2, by simp only; omega, fun k hk => nb k (by simp [Trm.nums, hk])⟩
    exact h.ws x (List.mem_cons_of_mem _ hx)
  · rw [h.eqv s, sol_cons, sol_cons, sol_cons]
    have : SatB s (look F) → (a.subst s = b.subst s ↔ (a1.subst s = b1.subst s ∧ a2.subst s = b2.subst s)) := fun hs => by
      rw [h.sat hs, ea, eb]
      simp only [Trm.subst, Trm.pair.injEq]
    constructor
    · exact fun z => let q := (this z.1).mp z.2.1; ⟨z.1, q.1, q.2, z.2.2⟩
    · exact fun z => ⟨z.1, (this z.1).mpr ⟨z.2.1, z.2.2.1⟩, z.2.2.2⟩
  · rw [sw]
    exact ⟨by rw [List.length_cons]; omega, by rw [List.length_cons]; omega, by omega, by omega, t3⟩
  · rw [sw]
    show _ < wsize ((_, _) :: subW F W)
    simp only [ea, eb, wsize_cons, Trm.size]
    omega
theorem Jn.clash (h : Jn A U V R E F ((a, b) :: W)) (ne : a.subst (sig (look F)) ≠ b.subst (sig (look F))) (ha : (a.subst (sig (look F))).isUk = false) (hb : (b.subst (sig (look F))).isUk = false) (hp : ((a.subst (sig (look F))).isPr && (b.subst (sig (look F))).isPr) = false) :
    ∀ s, SatB s (look R) → ¬ Sol s E := fun s h1 h2 => by
  have z := (h.eqv s).mp ⟨h1, h2⟩
  exact clash_sub ne ha hb hp ((h.sat z.1).mp (sol_cons.mp z.2).1)
theorem Jn.occurs {k : Int} {t : Trm} (h : Jn A U V R E F ((a, b) :: W)) (o : Ori (a.subst (sig (look F))) (b.subst (sig (look F))) k t) (ne : a.subst (sig (look F)) ≠ b.subst (sig (look F))) (hk : k ∈ t.nums) : ∀ s, SatB s (look R) → ¬ Sol s E := fun s h1 h2 => by
  have z := (h.eqv s).mp ⟨h1, h2⟩
  have e := o.sol.mp ((h.sat z.1).mp (sol_cons.mp z.2).1)
  cases hp : t.isPr with
  | true => exact Trm.occ hp hk e
  | false =>
    cases t with
    | pair _ _ => cases hp
    | unk j =>
      have : k = j := by simpa [Trm.nums] using hk
      subst this
      generalize a.subst (sig (look F)) = c at o ne
      generalize b.subst (sig (look F)) = d at o ne
      cases o with
      | left hu => simp [Trm.isUk] at hu
      | right hu => simp [Trm.isUk] at hu
      | gt hl => omega
      | lt hl => omega
    | _ => simp [Trm.nums] at hk
theorem Ori.low {c d t : Trm} {k : Int} (o : Ori c d k t) : ∀ j, t = .unk j → j < k := fun j e => by
  cases o with
  | left hu => rw [e] at hu; cases hu
  | right hu => rw [e] at hu; cases hu
  | gt hl => cases e; exact hl
  | lt hl => cases e; exact hl
theorem Ori.is {P : Trm → Prop} {c d t : Trm} {k : Int} (o : Ori c d k t) (hc : P c) (hd : P d) : P (.unk k) ∧ P t := by
  cases o with
  | left _ => exact ⟨hc, hd⟩
  | right _ => exact ⟨hd, hc⟩
  | gt _ => exact ⟨hc, hd⟩
  | lt _ => exact ⟨hd, hc⟩
theorem Jn.bind {k : Int} {t : Trm} (h : Jn A U V R E F ((a, b) :: W)) (o : Ori (a.subst (sig (look F))) (b.subst (sig (look F))) k t) (hk : k ∉ t.nums) (far : ∀ p ∈ bindR k t F, p.2.size ≤ 300 ∧ p.2.deep ≤ 60) :
    Jn A U V R E (bindR k t F) W ∧ meas V (bindR k t F) W < meas V F ((a, b) :: W) := by
  obtain ⟨C, hC, hl⟩ := h.stk
  have hw := h.ws (a, b) List.mem_cons_self
  have st : Stk C ((a.subst (sig (look F)), b.subst (sig (look F))) :: subW F W) := hC
  have ms : meas V F ((a, b) :: W) = (1 + wsize ((a.subst (sig (look F)), b.subst (sig (look F))) :: subW F W)) * 301 ^ freeN V F := rfl
  have ok := o.is (P := fun t => t.ok A U) (h.rw.sig_ok hw.1.1) (h.rw.sig_ok hw.2.1)
  have nm := o.is (P := fun t => ∀ k ∈ t.nums, k ∈ V) (h.rw.sig_nums hw.1.2.2) (h.rw.sig_nums hw.2.2.2)
  have fr := o.is (P := fun t => ∀ k ∈ t.nums, look F k = none) (fun k hk => sig_free h.rw.solved hk) (fun k hk => sig_free h.rw.solved hk)
  have kF : look F k = none := fr.1 k (by simp [Trm.nums])
  have kV : k ∈ V := nm.1 k (by simp [Trm.nums])
  have ft := far (k, t) List.mem_cons_self
  have lt := freeN_bind (t := t) kF kV
  refine ⟨⟨h.rw.bind kF kV nm.2 fr.2 hk o.low ok.2 far, fun x hx => h.ws x (List.mem_cons_of_mem _ hx), fun s => ?_, C + 60, ?_, by omega⟩, ?_⟩
  · rw [h.eqv s, sol_cons, sat_bind kF]
    have : SatB s (look F) → (a.subst s = b.subst s ↔ s k = t.subst s) := fun hs => by
      rw [h.sat hs, o.sol]
    constructor
    · exact fun z => ⟨⟨z.1, (this z.1).mp z.2.1⟩, z.2.2⟩
    · exact fun z => ⟨z.1.1, (this z.1.1).mpr z.1.2, z.2⟩
  · rw [subW_bind kF]
    exact stk_subst ft.2 st.2.2
  · rw [ms]
    unfold meas
    rw [subW_bind kF, wsize_cons]
    have h1 := wsize_sub (k := k) (t := t) (subW F W)
    have h2 : wsize (subW F W) * t.size ≤ wsize (subW F W) * 300 := Nat.mul_le_mul_left _ ft.1
    have h3 := (a.subst (sig (look F))).size_pos'
    have h4 : 301 ^ freeN V (bindR k t F) * 301 ≤ 301 ^ freeN V F := by
      rw [← Nat.pow_succ]
      exact Nat.pow_le_pow_right (by decide) lt
    have h5 : (1 + wsize ((subW F W).map fun e => (e.1.subst (one1 k t), e.2.subst (one1 k t)))) ≤ 301 * (1 + wsize (subW F W)) := by omega
    refine Nat.lt_of_le_of_lt (Nat.mul_le_mul_right _ h5) ?_
    have h6 : 301 * (1 + wsize (subW F W)) * 301 ^ freeN V (bindR k t F) = (1 + wsize (subW F W)) * (301 ^ freeN V (bindR k t F) * 301) := by
      rw [Nat.mul_comm 301, Nat.mul_assoc, Nat.mul_comm 301]
    rw [h6]
    refine Nat.lt_of_le_of_lt (Nat.mul_le_mul_left _ h4) ?_
    exact Nat.mul_lt_mul_of_pos_right (by simp only; omega) (Nat.pow_pos (by decide))
theorem Jn.start (h : Rw A U V R) (hE : ∀ e ∈ E, (e.1.ok A U ∧ e.1.deep ≤ 60 ∧ ∀ k ∈ e.1.nums, k ∈ V) ∧ e.2.ok A U ∧ e.2.deep ≤ 60 ∧ ∀ k ∈ e.2.nums, k ∈ V) (lE : E.length ≤ 1000) (lV : V.length ≤ 100) : Jn A U V R E R E := by
  refine ⟨h, hE, fun s => Iff.rfl, 120 + E.length, ?_, ?_⟩
  · clear lE
    induction E with
    | nil => trivial
    | cons e E ih =>
      have he := hE e List.mem_cons_self
      have h1 := h.sig_deep e.1
      have h2 := h.sig_deep e.2
      have h3 : (subW R E).length = E.length := List.length_map _
      have h4 := he.1.2.1
      have h5 := he.2.2.1
      refine ⟨?_, ?_, stk_mono (by rw [List.length_cons]; omega) (ih fun x hx => hE x (List.mem_cons_of_mem _ hx))⟩
      · show (subW R E).length + _ ≤ _
        rw [h3, List.length_cons]; omega
      · show (subW R E).length + _ ≤ _
        rw [h3, List.length_cons]; omega
  · have : freeN V R ≤ V.length := List.length_filter_le _ _
    omega
end
end Ab

namespace Ab
open PySem PySem.Spec PyProof.Rows L2
section
variable {A U : Int → Prop} {G : Bnd}
theorem fill_fine (ha : ∀ i, A i → Small i) (hu : ∀ i, U i → Small i) {ks : List Int} (hk : ∀ k ∈ ks, Small k ∧ (sig G k).ok A U) : Ab.fine (fillAv ks G) = true := by
  unfold fillAv
  simp only [Ab.fine]
  refine fines_all fun x hx => ?_
  obtain ⟨k, hk2, rfl⟩ := List.mem_map.mp hx
  have h1 := hk k hk2
  simp only [Ab.fine, fines, Bool.and_true, Bool.and_eq_true, decide_eq_true_eq]
  exact ⟨h1.1, Trm.fine ha hu h1.2⟩
theorem fill_depth {ks : List Int} {d : Nat} (h : ∀ k ∈ ks, (sig G k).deep ≤ d) : (toD (fillAv ks G)).depth ≤ d + 2 := by
  unfold fillAv
  simp only [toD, PyData.depth]
  have : PyData.depthAll (toDs (ks.map fun k => AV.tup [.int k, (sig G k).av])) ≤ d + 1 := by
    induction ks with
    | nil => simp [toDs, PyData.depthAll]
    | cons k ks ih =>
      have h1 := h k List.mem_cons_self
      have h2 := Trm.depth_le (sig G k)
      have h3 := ih fun y hy => h y (List.mem_cons_of_mem _ hy)
      simp only [List.map_cons, toDs, toD, PyData.depthAll, PyData.depth]
      omega
  omega
theorem fill_weight (ha : ∀ i, A i → Small i) (hu : ∀ i, U i → Small i) {ks : List Int} {c : Nat} (hk : ∀ k ∈ ks, Small k ∧ (sig G k).ok A U ∧ 140 * (sig G k).size + 140 ≤ c) : (toD (fillAv ks G)).weight ≤ ks.length * c := by
  unfold fillAv
  simp only [toD, PyData.weight]
  induction ks with
  | nil => simp [toDs, PyData.weightAll]
  | cons k ks ih =>
    have h1 := hk k List.mem_cons_self
    have h2 := Trm.weight_le ha hu h1.2.1
    have h3 := ih fun y hy => hk y (List.mem_cons_of_mem _ hy)
    have h4 := int_weight h1.1
    have e : (PyData.tuple [PyData.int k, toD (sig G k).av]).weight = (PyData.int k).weight + 1 + ((toD (sig G k).av).weight + 1 + 0) := by
      simp only [PyData.weight, PyData.weightAll]
    simp only [List.map_cons, toDs, toD, PyData.weightAll, List.length_cons, Nat.succ_mul]
    rw [e]
    omega
end
end Ab

namespace Ab
open PySem PySem.Spec PyProof.Rows L2
theorem Solved.res {F : Bnd} (h : Solved F) : ∀ t : Trm, Res F t (t.subst (sig F))
  | .num _ => .num _
  | .wd _ => .wd _
  | .nil => .nil
  | .unk n => by
    show Res F (.unk n) (sig F n)
    unfold sig
    cases e : F n with
    | none => exact .free e
    | some t => exact .bound e (.self (h.free n t e))
  | .pair a b => .pair (h.res a) (h.res b)
theorem Solved.good {F : Bnd} (h : Solved F) : Good F := by
  refine ⟨fun t => ⟨_, h.res t⟩, fun n k hn hr => ?_⟩
  have e := hr.det (h.res (.unk n))
  have e : Trm.unk k = sig F n := e
  unfold sig at e
  cases e2 : F n with
  | none => exact absurd e2 hn
  | some t =>
    rw [e2] at e
    have e : Trm.unk k = t := e
    subst e
    exact h.low n k e2
def tell (ks : List Int) (G : Bnd) : List (Int × Trm) := ks.map fun k => (k, sig G k)
theorem Keys.nodup {G : Bnd} {ks : List Int} (h : Keys G ks) : ks.Nodup := h.up.imp fun h e => by omega
theorem tell_keys {ks : List Int} {G : Bnd} : (tell ks G).map (·.1) = ks := by
  unfold tell
  rw [List.map_map]
  exact List.map_id' ks
theorem look_tell {G : Bnd} {ks : List Int} (h : Keys G ks) : look (tell ks G) = G := by
  funext n
  by_cases hn : n ∈ ks
  · have e : look (tell ks G) n = some (sig G n) := look_of_mem (by rw [tell_keys]; exact h.nodup) (List.mem_map.mpr ⟨n, hn, rfl⟩)
    rw [e]
    unfold sig
    cases e2 : G n with
    | none => exact absurd e2 ((h.mem n).mp hn)
    | some t => rfl
  · have e : look (tell ks G) n = none := look_none.mpr (by rw [tell_keys]; exact hn)
    rw [e]
    cases e2 : G n with
    | none => rfl
    | some t => exact absurd ((h.mem n).mpr (by rw [e2]; exact fun z => by cases z)) hn
theorem subst_lt {s : Int → Trm} {t : Trm} {n : Int} (hp : t.isPr = true) (h : n ∈ t.nums) : (s n).size < (t.subst s).size := by
  cases t with
  | pair a b =>
    simp only [Trm.nums, List.mem_append] at h
    simp only [Trm.subst, Trm.size]
    rcases h with h | h
    · have := Trm.subst_size (s := s) h; omega
    · have := Trm.subst_size (s := s) h; omega
  | _ => cases hp
structure Fil (A U : Int → Prop) (V : List Int) (G : Bnd) : Prop where
  solved : Solved G
  row : ∀ n t, G n = some t → n ∈ V ∧ t.ok A U ∧ t.pairs ≤ 60000 ∧ t.deep ≤ 60 ∧ ∀ k ∈ t.nums, k ∈ V
theorem Rw.fil {A U : Int → Prop} {V : List Int} {F : List (Int × Trm)} (h : Rw A U V F) : Fil A U V (look F) :=
  ⟨h.solved, fun n t e => by
    have h1 := h.ok _ (look_mem e)
    have h2 := Trm.size_pairs t
    exact ⟨h.keys _ (look_mem e), h1.1, by have := h1.2.1; simp only at this; omega, h1.2.2, h.nums _ (look_mem e)⟩⟩
theorem Fil.nil {A U : Int → Prop} {V : List Int} : Fil A U V (look []) := ⟨⟨fun _ _ h => (by cases h), fun _ _ h => (by cases h)⟩, fun _ _ h => (by cases h)⟩
theorem Fil.sig_ok {A U : Int → Prop} {V : List Int} {G : Bnd} (h : Fil A U V G) {t : Trm} (ht : t.ok A U) : (t.subst (sig G)).ok A U := by
  refine ok_subst ht fun n hn => ?_
  unfold sig
  cases e : G n with
  | none => exact ok_unk ht n hn
  | some u => exact (h.row n u e).2.1
theorem Fil.sig_deep {A U : Int → Prop} {V : List Int} {G : Bnd} (h : Fil A U V G) (t : Trm) : (t.subst (sig G)).deep ≤ t.deep + 60 := by
  refine deep_sub fun n _ => ?_
  unfold sig
  cases e : G n with
  | none => exact (by decide : 1 ≤ 60)
  | some u => exact (h.row n u e).2.2.2.1
theorem Fil.sig_nums {A U : Int → Prop} {V : List Int} {G : Bnd} (h : Fil A U V G) {t : Trm} (ht : ∀ k ∈ t.nums, k ∈ V) : ∀ k ∈ (t.subst (sig G)).nums, k ∈ V.filter fun k => (G k).isNone := by
  intro k hk
  have fr := sig_free h.solved hk
  obtain ⟨n, hn, hk⟩ := Trm.subst_nums.mp hk
  refine List.mem_filter.mpr ⟨?_, by rw [fr]; rfl⟩
  unfold sig at hk
  cases e : G n with
  | none =>
    rw [e] at hk
    have : k = n := by simpa [Trm.nums] using hk
    rw [this]; exact ht n hn
  | some u => rw [e] at hk; exact (h.row n u e).2.2.2.2 k hk
theorem Fil.len {A U : Int → Prop} {V : List Int} {G : Bnd} (h : Fil A U V G) {ks : List Int} (hk : Keys G ks) : ks.length ≤ V.length :=
  sub_len hk.nodup fun k hk2 => by
    have hn := (hk.mem k).mp hk2
    cases e : G k with
    | none => exact absurd e hn
    | some t => exact (h.row k t e).1
end Ab

namespace Ab
open PySem PySem.Spec PyProof.Rows L2
structure Arnd (n : Int) (fr : List Int) (t : Trm) : Prop where
  pr : t.isPr = true
  has : n ∈ t.nums
  nums : ∀ k ∈ t.nums, k = n ∨ k ∈ fr
  deep : t.deep ≤ 4
  pairs : t.pairs ≤ 3
  ok : ∀ U : Int → Prop, U n → (∀ k ∈ fr, U k) → t.ok Far U
def Hun (n : Int) : Prop := 0 ≤ n ∧ n < 100
structure IsRing (ns fr : List Int) (E : List (Trm × Trm)) : Prop where
  ne : 0 < ns.length
  le : ns.length ≤ 6
  nd : ns.Nodup
  lf : fr.length ≤ 2
  len : E.length = ns.length
  eq : ∀ k, k < ns.length → ∃ t, E[k]? = some (.unk (ns.getD k 0), t) ∧ Arnd (ns.getD ((k + 1) % ns.length) 0) fr t
  sep : ∀ n ∈ fr, n ∉ ns
  ns_ok : ∀ n ∈ ns, 0 ≤ n ∧ n < 20
  fr_ok : ∀ n ∈ fr, 20 ≤ n ∧ n < 40
section
variable {ns fr : List Int} {E : List (Trm × Trm)}
theorem getD_mem {k : Nat} (h : k < ns.length) : ns.getD k 0 ∈ ns := by
  rw [List.getD_eq_getElem?_getD, List.getElem?_eq_getElem h]
  exact List.getElem_mem h
theorem getD_inj (nd : ns.Nodup) {i j : Nat} (hi : i < ns.length) (hj : j < ns.length) (e : ns.getD i 0 = ns.getD j 0) : i = j := by
  rw [List.getD_eq_getElem?_getD, List.getElem?_eq_getElem hi, List.getD_eq_getElem?_getD, List.getElem?_eq_getElem hj] at e
  have h1 := List.Nodup.idxOf_getElem nd i hi
  have h2 := List.Nodup.idxOf_getElem nd j hj
  have e : ns[i] = ns[j] := e
  rw [← h1, ← h2, e]
theorem IsRing.hun (R : IsRing ns fr E) : (∀ n ∈ ns, Hun n) ∧ ∀ n ∈ fr, Hun n := by
  refine ⟨fun n hn => ?_, fun n hn => ?_⟩
  · have := R.ns_ok n hn; exact ⟨by omega, by omega⟩
  · have := R.fr_ok n hn; exact ⟨by omega, by omega⟩
theorem ring_none (R : IsRing ns fr E) (s : Int → Trm) : ¬ Sol s E := by
  intro h
  have step : ∀ k, k < ns.length → (s (ns.getD ((k + 1) % ns.length) 0)).size < (s (ns.getD k 0)).size := by
    intro k hk
    obtain ⟨t, e, a⟩ := R.eq k hk
    have e2 := h _ (List.mem_of_getElem? e)
    have e2 : s (ns.getD k 0) = t.subst s := e2
    rw [e2]
    exact subst_lt a.pr a.has
  have main : ∀ n k, k < ns.length → (s (ns.getD k 0)).size = n → False := by
    intro n
    induction n using Nat.strongRecOn with
    | ind n ih =>
      intro k hk e
      have l := step k hk
      exact ih _ (by omega) ((k + 1) % ns.length) (Nat.mod_lt _ R.ne) rfl
  exact main _ 0 R.ne rfl
structure Ch (ns fr : List Int) (E : List (Trm × Trm)) (j : Nat) (F : List (Int × Trm)) : Prop where
  keys : ∀ n, look F n ≠ none ↔ ∃ i, i < j ∧ n = ns.getD i 0
  solved : Solved (look F)
  nd : (F.map (·.1)).Nodup
  ok : ∀ p ∈ F, p.2.ok Far Hun ∧ p.2.size ≤ 7 ^ j ∧ p.2.deep ≤ 4 * j ∧ p.1 ∈ ns ++ fr ∧ ∀ k ∈ p.2.nums, k ∈ ns ++ fr
  eqv : ∀ s, SatB s (look F) ↔ Sol s (E.take j)
theorem Ch.start : Ch ns fr E 0 [] := ⟨fun n => ⟨fun h => absurd rfl h, fun ⟨_, h, _⟩ => absurd h (Nat.not_lt_zero _)⟩, ⟨fun _ _ h => (by cases h), fun _ _ h => (by cases h)⟩, List.nodup_nil, fun _ h => absurd h List.not_mem_nil, fun s => ⟨fun _ => by rw [List.take_zero]; exact sol_nil, fun _ _ _ h => (by cases h)⟩⟩
theorem Ch.fil {j : Nat} {F : List (Int × Trm)} (R : IsRing ns fr E) (C : Ch ns fr E j F) (hj : j ≤ 5) : Fil Far Hun (ns ++ fr) (look F) := by
  refine ⟨C.solved, fun n t e => ?_⟩
  have h := C.ok _ (look_mem e)
  have h1 : t.size ≤ 7 ^ j := h.2.1
  have h2 : 7 ^ j ≤ 7 ^ 5 := Nat.pow_le_pow_right (by decide) hj
  have h3 : 7 ^ 5 = 16807 := by decide
  have h4 := Trm.size_pairs t
  exact ⟨h.2.2.2.1, h.1, by omega, by have : t.deep ≤ 4 * j := h.2.2.1; omega, h.2.2.2.2⟩
theorem Ch.free {j : Nat} {F : List (Int × Trm)} (R : IsRing ns fr E) (C : Ch ns fr E j F) {i : Nat} (hi : i < ns.length) (h : j ≤ i) : look F (ns.getD i 0) = none := by
  cases e : look F (ns.getD i 0) with
  | none => rfl
  | some t =>
    obtain ⟨i', h1, h2⟩ := (C.keys _).mp (by rw [e]; exact fun z => by cases z)
    have := getD_inj R.nd hi (by omega) h2
    omega
theorem Ch.free2 {j : Nat} {F : List (Int × Trm)} (R : IsRing ns fr E) (C : Ch ns fr E j F) (hj : j ≤ ns.length) {n : Int} (hn : n ∈ fr) : look F n = none := by
  cases e : look F n with
  | none => rfl
  | some t =>
    obtain ⟨i', h1, h2⟩ := (C.keys _).mp (by rw [e]; exact fun z => by cases z)
    exact absurd (h2 ▸ getD_mem (by omega)) (R.sep n hn)
theorem take_sol {j : Nat} {e : Trm × Trm} (h : E[j]? = some e) (s : Int → Trm) : Sol s (E.take (j + 1)) ↔ Sol s (E.take j) ∧ Sol s [e] := by
  rw [List.take_add_one, h, sol_append]
  rfl
theorem Ch.step {j : Nat} {F : List (Int × Trm)} {k : Int} {t : Trm} (R : IsRing ns fr E) (C : Ch ns fr E j F) (hj : j + 1 < ns.length) (he : E[j]? = some (.unk k, t)) : Ch ns fr E (j + 1) (bindR k t F) ∧ ∀ s, (SatB s (look F) ∧ Sol s [(.unk k, t)]) ↔ SatB s (look (bindR k t F)) := by
  obtain ⟨t', e, a⟩ := R.eq j (by omega)
  rw [he] at e
  cases e
  rw [Nat.mod_eq_of_lt hj] at a
  have kF := C.free R (i := j) (by omega) (Nat.le_refl _)
  have tF : ∀ n ∈ t.nums, look F n = none := fun n hn => by
    rcases a.nums n hn with rfl | h
    · exact C.free R hj (by omega)
    · exact C.free2 R (by omega) h
  have kt : ns.getD j 0 ∉ t.nums := fun z => by
    rcases a.nums _ z with h | h
    · have := getD_inj R.nd (by omega) hj h
      omega
    · exact R.sep _ h (getD_mem (by omega))
  have eqv : ∀ s, (SatB s (look F) ∧ Sol s [(.unk (ns.getD j 0), t)]) ↔ SatB s (look (bindR (ns.getD j 0) t F)) := fun s => by
    rw [sat_bind kF, sol_cons]
    exact and_congr_right fun _ => ⟨fun z => z.1, fun z => ⟨z, sol_nil⟩⟩
  have tnp : ∀ i, t ≠ .unk i := fun i z => by have := a.pr; rw [z] at this; cases this
  have sz := Trm.size_pairs t
  have ap := a.pairs
  have tok : t.ok Far Hun := a.ok Hun (R.hun.1 _ (getD_mem hj)) R.hun.2
  have tV : ∀ k ∈ t.nums, k ∈ ns ++ fr := fun k hk => by
    rcases a.nums k hk with rfl | h
    · exact List.mem_append_left _ (getD_mem hj)
    · exact List.mem_append_right _ h
  refine ⟨⟨fun n => ?_, solved_bind C.solved kF tF kt (fun i z => absurd z (tnp i)), ?_, fun p hp => ?_, fun s => ?_⟩, eqv⟩
  · rw [look_bind]
    by_cases h : ns.getD j 0 = n
    · rw [if_pos h]
      exact ⟨fun _ => ⟨j, Nat.lt_succ_self _, h.symm⟩, fun _ z => by cases z⟩
    · rw [if_neg h]
      have : (look F n).map (·.subst (one1 (ns.getD j 0) t)) ≠ none ↔ look F n ≠ none := by cases look F n <;> simp
      rw [this, C.keys n]
      constructor
      · rintro ⟨i, h1, h2⟩
        exact ⟨i, by omega, h2⟩
      · rintro ⟨i, h1, h2⟩
        refine ⟨i, ?_, h2⟩
        rcases Nat.lt_or_ge i j with z | z
        · exact z
        · have : i = j := by omega
          exact absurd (by rw [h2, this]) h
  · unfold bindR
    rw [List.map_cons, List.map_map, List.nodup_cons]
    exact ⟨look_none.mp kF, C.nd⟩
  · have p7 : 1 ≤ 7 ^ j := Nat.one_le_pow _ _ (by decide)
    have e7 : 7 ^ (j + 1) = 7 ^ j * 7 := Nat.pow_succ ..
    rcases bind_mem hp with rfl | ⟨q, hq, rfl⟩
    · refine ⟨tok, ?_, ?_, List.mem_append_left _ (getD_mem (by omega)), tV⟩
      · show t.size ≤ _
        omega
      · show t.deep ≤ _
        have := a.deep
        omega
    · have h := C.ok q hq
      refine ⟨ok_subst h.1 fun n hn => ?_, ?_, ?_, h.2.2.2.1, fun k hk => ?_⟩
      · unfold one1
        by_cases e : n = ns.getD j 0
        · rw [if_pos e]; exact tok
        · rw [if_neg e]; exact ok_unk h.1 n hn
      · refine Nat.le_trans (size_subst1 q.2) ?_
        rw [e7]
        exact Nat.mul_le_mul h.2.1 (by omega)
      · have h1 := deep_subst (n := ns.getD j 0) (s := t) q.2
        have h2 := h.2.2.1
        have h3 := a.deep
        simp only
        omega
      · rcases one_nums hk with ⟨h1, _⟩ | h1
        · exact h.2.2.2.2 k h1
        · exact tV k h1
  · rw [← eqv s, take_sol he, C.eqv s]
theorem Ch.last {j : Nat} {F : List (Int × Trm)} {e : Trm × Trm} (R : IsRing ns fr E) (C : Ch ns fr E j F) (hj : j + 1 = ns.length) (he : E[j]? = some e) : ∀ s, SatB s (look F) → ¬ Sol s [e] := fun s h1 h2 => by
  refine ring_none R s ?_
  have := (take_sol he s).mpr ⟨(C.eqv s).mp h1, h2⟩
  rwa [List.take_of_length_le (by rw [R.len]; omega)] at this
end
theorem at_getD {ns : List Int} {i : Nat} (h : i < ns.length) : atI (ns.map AV.int) (i : Int) = some (.int (ns.getD i 0)) := by
  unfold atI ixN
  rw [if_pos (by omega), if_pos (by rw [List.length_map]; omega)]
  show (ns.map AV.int)[((i : Nat) : Int).toNat]? = _
  rw [Int.toNat_natCast, List.getElem?_map, List.getD_eq_getElem?_getD, List.getElem?_eq_getElem h]
  rfl
theorem at_of {α : Type} {xs : List α} {x : α} {i : Nat} (h : xs[i]? = some x) : atI xs (i : Int) = some x := by
  unfold atI ixN
  have : i < xs.length := by
    rcases Nat.lt_or_ge i xs.length with z | z
    · exact z
    · rw [List.getElem?_eq_none z] at h; cases h
  rw [if_pos (by omega), if_pos (by omega)]
  exact h
theorem upto_drop {n k : Nat} (h : k < n) : (upto n).drop k = .int (k : Nat) :: (upto n).drop (k + 1) := by
  have hl : k < (upto n).length := by rw [upto_len]; exact h
  have e : (upto n)[k]? = some (.int (k : Nat)) := by
    unfold upto
    rw [List.getElem?_map, List.getElem?_range h]
    rfl
  rw [List.drop_eq_getElem_cons hl]
  rw [List.getElem?_eq_getElem hl] at e
  rw [Option.some.inj e]
theorem upto_end {n k : Nat} (h : n ≤ k) : (upto n).drop k = [] := List.drop_eq_nil_of_le (by rw [upto_len]; exact h)
end Ab

namespace Ab
open PySem PySem.Spec PyProof.Rows L2
def Lt12 (i : Int) : Prop := i.natAbs ≤ 1000000000000
theorem weight12 {i : Int} (h : Lt12 i) : (PyData.int i).weight ≤ 41 := by
  simp only [PyData.weight]
  split
  · omega
  · have : i.natAbs.log2 < 41 := by
      by_cases h0 : i.natAbs = 0
      · rw [h0]; decide
      · refine (Nat.log2_lt h0).mpr (Nat.lt_of_le_of_lt h (by decide))
    omega
theorem weight_by {A U : Int → Prop} (ha : ∀ i, A i → Lt12 i) (hu : ∀ i, U i → Lt12 i) : ∀ {t : Trm}, t.ok A U → (toD t.av).weight ≤ 48 * t.size
  | .num i, h => by
    have := weight12 (ha i h)
    simp only [Trm.av, toD, Trm.size]
    omega
  | .wd w, h => by
    have h2 := h.2.1
    simp only [Trm.av, toD, PyData.weight, Trm.size]
    have : w.cps.size ≤ 8 := h2
    omega
  | .nil, _ => by simp [Trm.av, toD, toDs, PyData.weight, PyData.weightAll]
  | .unk n, h => by
    have := weight12 (hu n h)
    have e : (PyData.str (Str.ofString "?")).weight = 1 := by decide +kernel
    simp only [Trm.av, toD, toDs, PyData.weightAll, Trm.size]
    have e2 : (PyData.tuple [PyData.str (Str.ofString "?"), PyData.int n]).weight = (PyData.str (Str.ofString "?")).weight + 1 + ((PyData.int n).weight + 1 + 0) := by
      simp only [PyData.weight, PyData.weightAll]
    rw [e2, e]
    omega
  | .pair a b, h => by
    have h1 := weight_by ha hu h.1
    have h2 := weight_by ha hu h.2
    simp only [Trm.av, toD, toDs, PyData.weight, PyData.weightAll, Trm.size]
    omega
theorem fill_weight_by {A U : Int → Prop} {G : Bnd} (ha : ∀ i, A i → Lt12 i) (hu : ∀ i, U i → Lt12 i) {ks : List Int} {c : Nat} (hk : ∀ k ∈ ks, Lt12 k ∧ (sig G k).ok A U ∧ 48 * (sig G k).size + 48 ≤ c) : (toD (fillAv ks G)).weight ≤ ks.length * c := by
  unfold fillAv
  simp only [toD, PyData.weight]
  induction ks with
  | nil => simp [toDs, PyData.weightAll]
  | cons k ks ih =>
    have h1 := hk k List.mem_cons_self
    have h2 := weight_by ha hu h1.2.1
    have h3 := ih fun y hy => hk y (List.mem_cons_of_mem _ hy)
    have h4 := weight12 h1.1
    have e : (PyData.tuple [PyData.int k, toD (sig G k).av]).weight = (PyData.int k).weight + 1 + ((toD (sig G k).av).weight + 1 + 0) := by
      simp only [PyData.weight, PyData.weightAll]
    simp only [List.map_cons, toDs, toD, PyData.weightAll, List.length_cons, Nat.succ_mul]
    rw [e]
    omega
theorem Far.lt12 {i : Int} (h : Far i) : Lt12 i := by
  unfold Far at h
  unfold Lt12
  omega
theorem Lt12.small {i : Int} (h : Lt12 i) : Small i := by
  unfold Lt12 at h
  unfold Small
  exact Nat.lt_of_le_of_lt h (by decide +kernel)
theorem Hun.lt12 {i : Int} (h : Hun i) : Lt12 i := by
  unfold Hun at h
  unfold Lt12
  omega
theorem rw_fine {U : Int → Prop} {V : List Int} {F : List (Int × Trm)} (hu : ∀ i, U i → Lt12 i) (hV : ∀ i ∈ V, Lt12 i) (lV : V.length ≤ 26) (r : Rw Far U V F) {ks : List Int} (hk : Keys (look F) ks) : Ab.fine (fillAv ks (look F)) = true ∧ (toD (fillAv ks (look F))).depth ≤ 62 ∧ (toD (fillAv ks (look F))).weight ≤ 390000 := by
  have each : ∀ k ∈ ks, Lt12 k ∧ (sig (look F) k).ok Far U ∧ (sig (look F) k).size ≤ 300 ∧ (sig (look F) k).deep ≤ 60 := fun k hk2 => by
    have hn := (hk.mem k).mp hk2
    cases e : look F k with
    | none => exact absurd e hn
    | some t =>
      have : sig (look F) k = t := by unfold sig; rw [e]; rfl
      rw [this]
      have h1 := r.ok _ (look_mem e)
      exact ⟨hV k (r.keys _ (look_mem e)), h1⟩
  have len := r.fil.len hk
  refine ⟨fill_fine (fun _ h => h.lt12.small) (fun _ h => (hu _ h).small) fun k hk2 => ⟨(each k hk2).1.small, (each k hk2).2.1⟩, fill_depth fun k hk2 => (each k hk2).2.2.2, ?_⟩
  have := fill_weight_by (A := Far) (U := U) (fun _ h => h.lt12) hu (c := 14448) fun k hk2 => ⟨(each k hk2).1, (each k hk2).2.1, by have := (each k hk2).2.2.1; omega⟩
  have h2 : ks.length * 14448 ≤ 26 * 14448 := Nat.mul_le_mul_right _ (by omega)
  omega
end Ab

namespace Ab
open PySem PySem.Spec PyProof.Rows L2
theorem short_int {i : Int} (h : Lt12 i) : (PyData.int i).leavesShort 14 = true := by
  simp only [PyData.leavesShort, PyData.shown, decide_eq_true_eq]
  have e := int_text_length_le10 (k := 13) (a := i) (by decide) (Nat.lt_of_le_of_lt h (by decide))
  exact decide_eq_true (Nat.le_trans (Nat.le_of_eq (PySem.ofString_length _)) e)
theorem short_str {x : Str} (h : PyData.strOk x = true) : (PyData.str x).leavesShort 14 = true := by
  simp only [PyData.leavesShort]
  unfold PyData.strOk at h
  rw [← Array.all_toList, List.all_eq_true] at h
  rw [List.all_eq_true]
  intro c hc
  have := of_decide_eq_true (h c hc)
  exact decide_eq_true (Nat.lt_trans this (by decide))
theorem short_tm {A U : Int → Prop} (ha : ∀ i, A i → Lt12 i) (hu : ∀ i, U i → Lt12 i) : ∀ {t : Trm}, t.ok A U → (toD t.av).leavesShort 14 = true
  | .num i, h => short_int (ha i h)
  | .wd w, h => short_str (Word.ok h)
  | .nil, _ => by simp [Trm.av, toD, toDs, PyData.leavesShort, PyData.leavesShortAll]
  | .unk n, h => by
    have h1 := short_int (hu n h)
    have h2 := short_str mark_ok
    simp only [Trm.av, toD, toDs]
    unfold PyData.leavesShort
    simp only [PyData.leavesShortAll, h1, h2, Bool.and_true]
  | .pair a b, h => by
    have h1 := short_tm ha hu h.1
    have h2 := short_tm ha hu h.2
    simp only [Trm.av, toD, toDs, PyData.leavesShort, PyData.leavesShortAll, h1, h2, Bool.and_true]
theorem short_fill {A U : Int → Prop} {G : Bnd} (ha : ∀ i, A i → Lt12 i) (hu : ∀ i, U i → Lt12 i) {ks : List Int} (hk : ∀ k ∈ ks, Lt12 k ∧ (sig G k).ok A U) : (toD (fillAv ks G)).leavesShort 14 = true := by
  unfold fillAv
  simp only [toD]
  unfold PyData.leavesShort
  induction ks with
  | nil => simp [toDs, PyData.leavesShortAll]
  | cons k ks ih =>
    have h1 := hk k List.mem_cons_self
    have h2 := short_int h1.1
    have h3 := short_tm ha hu h1.2
    have h4 := ih fun y hy => hk y (List.mem_cons_of_mem _ hy)
    have e : (toD (AV.tup [.int k, (sig G k).av])).leavesShort 14 = true := by
      simp only [toD, toDs]
      unfold PyData.leavesShort
      simp only [PyData.leavesShortAll, h2, h3, Bool.and_true]
    simp only [List.map_cons, toDs, PyData.leavesShortAll, e, h4, Bool.and_true]
structure Told12 (w : Nat) (x : AV) : Prop where
  fine : Ab.fine x = true
  short : (toD x).leavesShort 14 = true
  depth : (toD x).depth ≤ 62
  weight : (toD x).weight ≤ w
theorem Told12.non {w : Nat} (h : 1 ≤ w) : Told12 w .non := ⟨by decide, by decide, by decide, Nat.le_trans (by decide) h⟩
theorem told_all {w : Nat} : ∀ {L : List AV}, (∀ x ∈ L, Told12 w x) → fines L = true ∧ PyData.leavesShortAll 14 (toDs L) = true ∧ PyData.depthAll (toDs L) ≤ 62 ∧ PyData.weightAll (toDs L) ≤ L.length * (w + 1)
  | [], _ => by simp [fines, toDs, PyData.leavesShortAll, PyData.depthAll, PyData.weightAll]
  | x :: L, h => by
    obtain ⟨h1, h2, h3, h4⟩ := told_all fun y hy => h y (List.mem_cons_of_mem _ hy)
    have hx := h x List.mem_cons_self
    have d := hx.depth
    have e := hx.weight
    simp only [fines, toDs, PyData.leavesShortAll, PyData.depthAll, PyData.weightAll, hx.fine, hx.short, h1, h2, Bool.and_true, List.length_cons, Nat.succ_mul, true_and]
    exact ⟨by omega, by omega⟩
section
variable {m : AHp} {q : AK}
theorem repr_list {a : Addr} {L : List AV} {w : Nat} (ea : m a = some (.lst L)) (h : ∀ x ∈ L, Told12 w x) (hw : L.length * (w + 1) ≤ 1000000) : bRepr [.ref a] m q = q (.str (PyData.list (toDs L)).shown) m := by
  obtain ⟨h1, h2, h3, h4⟩ := told_all h
  have sl : (PyData.list (toDs L)).shown.length ≤ sizeLine := by
    have e := PyData.shown_le 14 (by decide) (PyData.list (toDs L)) (by simp only [PyData.leavesShort]; exact h2)
    have e2 : (PyData.list (toDs L)).weight = PyData.weightAll (toDs L) := by simp only [PyData.weight]
    rw [e2] at e
    exact (show _ ≤ 16777216 by omega)
  have main : (pureVs L = true ∧ PyData.showableAll (toDs L) = true ∧ PyData.depthAll (toDs L) ≤ 150 ∧ (PyData.list (toDs L)).shown.length ≤ sizeLine ∧ q (.str (PyData.list (toDs L)).shown) m) = q (.str (PyData.list (toDs L)).shown) m :=
    propext ⟨fun z => z.2.2.2.2, fun z => ⟨fines_pure L h1, fines_show L h1, by omega, sl, z⟩⟩
  show (match m a with | some (.lst xs) => _ | _ => False) = _
  rw [ea]
  exact main
end
structure FillOf (A U : Int → Prop) (V : List Int) (E : List (Trm × Trm)) (G : Bnd) : Prop where
  fil : Fil A U V G
  eqv : ∀ s, SatB s G ↔ Sol s E
inductive DueL (A U : Int → Prop) (V : List Int) (w : Nat) : List (Trm × Trm) → List (Trm × Trm) → List AV → Prop
  | done {D : List (Trm × Trm)} : DueL A U V w D [] []
  | no {D E : List (Trm × Trm)} {e : Trm × Trm} : (∀ s, ¬ Sol s (D ++ [e])) → DueL A U V w D (e :: E) [.non]
  | yes {D E : List (Trm × Trm)} {e : Trm × Trm} {G : Bnd} {ks : List Int} {L : List AV} : FillOf A U V (D ++ [e]) G → Keys G ks → Told12 w (fillAv ks G) → DueL A U V w (D ++ [e]) E L → DueL A U V w D (e :: E) (fillAv ks G :: L)
theorem DueL.told {A U : Int → Prop} {V : List Int} {w : Nat} (hw : 1 ≤ w) {D E : List (Trm × Trm)} {L : List AV} (h : DueL A U V w D E L) : ∀ x ∈ L, Told12 w x := by
  induction h with
  | done => exact fun _ h => absurd h List.not_mem_nil
  | no _ => intro x hx; rw [List.mem_singleton.mp hx]; exact .non hw
  | yes _ _ t _ ih =>
    intro x hx
    rcases List.mem_cons.mp hx with rfl | hx
    · exact t
    · exact ih x hx
theorem DueL.len {A U : Int → Prop} {V : List Int} {w : Nat} {D E : List (Trm × Trm)} {L : List AV} (h : DueL A U V w D E L) : L.length ≤ E.length := by
  induction h with
  | done => exact Nat.le_refl _
  | no _ => simp
  | yes _ _ _ _ ih => simp only [List.length_cons]; omega
theorem DueL.last {A U : Int → Prop} {V : List Int} {w : Nat} {D E : List (Trm × Trm)} {L : List AV} (h : DueL A U V w D E L) (ne : E ≠ []) : (L.getLast? = some .non ∧ ∀ s, ¬ Sol s (D ++ E)) ∨ ∃ G ks, Solved G ∧ Keys G ks ∧ (∀ s, SatB s G ↔ Sol s (D ++ E)) ∧ L.getLast? = some (fillAv ks G) := by
  induction h with
  | done => exact absurd rfl ne
  | @no D E e h =>
    refine .inl ⟨rfl, fun s z => h s ?_⟩
    rw [show D ++ e :: E = (D ++ [e]) ++ E by simp] at z
    exact (sol_append.mp z).1
  | @yes D E e G ks L f k _ dl ih =>
    rw [show D ++ e :: E = (D ++ [e]) ++ E by simp]
    cases E with
    | nil =>
      cases dl
      exact .inr ⟨G, ks, f.fil.solved, k, fun s => by rw [List.append_nil]; exact f.eqv s, rfl⟩
    | cons e2 E =>
      have hL : L ≠ [] := by cases dl <;> simp
      have e3 : (fillAv ks G :: L).getLast? = L.getLast? := by
        cases L with
        | nil => exact absurd rfl hL
        | cons y L => rfl
      rw [e3]
      exact ih (by simp)
theorem DueL.same {A U : Int → Prop} {V : List Int} {w w' : Nat} {E E' : List (Trm × Trm)} {L L' : List AV} (h : DueL A U V w [] E L) (h' : DueL A U V w' [] E' L') (ne : E ≠ []) (p : E.Perm E') : L.getLast? = L'.getLast? := by
  have ne' : E' ≠ [] := fun z => ne (by rw [z] at p; exact p.eq_nil)
  have ps : ∀ s, Sol s E ↔ Sol s E' := fun s => ⟨fun h e he => h e (p.mem_iff.mpr he), fun h e he => h e (p.mem_iff.mp he)⟩
  rcases h.last ne with ⟨a1, a2⟩ | ⟨G, ks, a1, a2, a3, a4⟩
  · rcases h'.last ne' with ⟨b1, b2⟩ | ⟨G', ks', b1, b2, b3, b4⟩
    · rw [a1, b1]
    · exact absurd ((ps _).mpr ((b3 _).mp b1.sat)) (a2 _)
  · rcases h'.last ne' with ⟨b1, b2⟩ | ⟨G', ks', b1, b2, b3, b4⟩
    · exact absurd ((ps _).mp ((a3 _).mp a1.sat)) (b2 _)
    · have e : G = G' := a1.uniq b1 fun s => (a3 s).trans ((ps s).trans (b3 s).symm)
      subst e
      rw [a4, b4, a2.uniq b2]
theorem DueL.uniq {A U : Int → Prop} {V : List Int} {w w' : Nat} {D E : List (Trm × Trm)} {L : List AV} (h : DueL A U V w D E L) : ∀ {L' : List AV}, DueL A U V w' D E L' → L = L' := by
  induction h with
  | done => intro L' h'; cases h'; rfl
  | no h =>
    intro L' h'
    cases h' with
    | no _ => rfl
    | yes f _ _ _ => exact absurd ((f.eqv _).mp f.fil.solved.sat) (h _)
  | yes f k _ _ ih =>
    intro L' h'
    cases h' with
    | no h => exact absurd ((f.eqv _).mp f.fil.solved.sat) (h _)
    | yes f' k' _ d' =>
      have e := f.fil.solved.uniq f'.fil.solved fun s => (f.eqv s).trans (f'.eqv s).symm
      subst e
      rw [k.uniq k', ih d']
end Ab

namespace Ab
open PySem PySem.Spec PyProof.Rows L2
def Trm.dec : (a b : Trm) → Decidable (a = b)
  | .num i, .num j => if h : i = j then .isTrue (by rw [h]) else .isFalse fun e => h (Trm.num.inj e)
  | .num _, .wd _ => .isFalse fun e => by cases e
  | .num _, .nil => .isFalse fun e => by cases e
  | .num _, .unk _ => .isFalse fun e => by cases e
  | .num _, .pair _ _ => .isFalse fun e => by cases e
  | .wd _, .num _ => .isFalse fun e => by cases e
  | .wd i, .wd j => if h : i = j then .isTrue (by rw [h]) else .isFalse fun e => h (Trm.wd.inj e)
  | .wd _, .nil => .isFalse fun e => by cases e
  | .wd _, .unk _ => .isFalse fun e => by cases e
  | .wd _, .pair _ _ => .isFalse fun e => by cases e
  | .nil, .num _ => .isFalse fun e => by cases e
  | .nil, .wd _ => .isFalse fun e => by cases e
  | .nil, .nil => .isTrue rfl
  | .nil, .unk _ => .isFalse fun e => by cases e
  | .nil, .pair _ _ => .isFalse fun e => by cases e
  | .unk _, .num _ => .isFalse fun e => by cases e
  | .unk _, .wd _ => .isFalse fun e => by cases e
  | .unk _, .nil => .isFalse fun e => by cases e
  | .unk i, .unk j => if h : i = j then .isTrue (by rw [h]) else .isFalse fun e => h (Trm.unk.inj e)
  | .unk _, .pair _ _ => .isFalse fun e => by cases e
  | .pair _ _, .num _ => .isFalse fun e => by cases e
  | .pair _ _, .wd _ => .isFalse fun e => by cases e
  | .pair _ _, .nil => .isFalse fun e => by cases e
  | .pair _ _, .unk _ => .isFalse fun e => by cases e
  | .pair a b, .pair c d => match Trm.dec a c, Trm.dec b d with
    | .isTrue h, .isTrue k => .isTrue (by rw [h, k])
    | .isFalse h, _ => .isFalse fun e => h (Trm.pair.inj e).1
    | _, .isFalse k => .isFalse fun e => k (Trm.pair.inj e).2
instance : DecidableEq Trm := Trm.dec
inductive Stp where
  | st (w : Str) (ns : List Int) | ring (ns : List Int)
def Stp.av : Stp → AV
  | .st w ns => .tup (.str w :: ns.map AV.int)
  | .ring ns => .tup [.str "ring", .tup (ns.map AV.int)]
def five : List Str := ["given", "turn", "through", "heads", "rests"]
def manyN : List (Str × Int) := [("given", 0), ("turn", 1), ("through", 2), ("heads", 1), ("rests", 1)]
def Stp.wf : Stp → Prop
  | .st w ns => w ∈ five ∧ ns.length ≤ 2
  | .ring ns => ns.length ≤ 10
def Stp.isSt : Stp → Bool
  | .st _ _ => true
  | .ring _ => false
abbrev Equ := Trm × Trm
def equAv (e : Equ) : AV := .tup [e.1.av, e.2.av]
def inR (many : Nat) (ns : List Int) : Bool := ns.all fun n => decide (0 ≤ n) && decide (n < (many : Int))
def eqAt (K : List Equ) (n : Int) : Equ := K.getD n.toNat (.nil, .nil)
def shapeOk (w : Str) (ns : List Int) : Bool := decide ((manyN.lookup w).getD (-1) = (ns.length : Int))
def shownR (K : List Equ) (g : Equ) (w : Str) (ns : List Int) : Option Equ :=
  if w = "given" then some g
  else if w = "turn" then some ((eqAt K (ns.getD 0 0)).2, (eqAt K (ns.getD 0 0)).1)
  else if w = "through" then (if (eqAt K (ns.getD 0 0)).2 = (eqAt K (ns.getD 1 0)).1 then some ((eqAt K (ns.getD 0 0)).1, (eqAt K (ns.getD 1 0)).2) else none)
  else match eqAt K (ns.getD 0 0) with
    | (.pair x y, .pair u v) => some (if w = "heads" then (x, u) else (y, v))
    | _ => none
def shownE (K : List Equ) (g : Equ) (w : Str) (ns : List Int) : Option Equ := if (inR K.length ns && shapeOk w ns) = true then shownR K g w ns else none
def runs (g : Equ) : List Stp → List Equ → Option (List Equ)
  | [], K => some K
  | .st w ns :: r, K => match shownE K g w ns with
    | some e => runs g r (K ++ [e])
    | none => none
  | .ring _ :: _, _ => none
def isPart (a : Trm) : Trm → Bool
  | .pair x y => decide (a = .pair x y) || (isPart a x || isPart a y)
  | .num i => decide (a = .num i)
  | .wd i => decide (a = .wd i)
  | .nil => decide (a = .nil)
  | .unk i => decide (a = .unk i)
def clash (a b : Trm) : Bool := !(a.isUk || b.isUk) && (!decide (a = b) && !(a.isPr && b.isPr))
def chained (E F : List Equ) : Bool := (E.zip F).all fun p => isPart p.2.1 p.1.2
def isRing (E : List Equ) : Bool := !E.isEmpty && ((E.all fun e => e.1.isUk && e.2.isPr) && chained E (E.drop 1 ++ E.take 1))
def lastOk (K : List Equ) : Option Stp → Bool
  | some (.ring ns) => inR K.length ns && isRing (ns.map (eqAt K))
  | _ => clash (eqAt K ((K.length : Int) - 1)).1 (eqAt K ((K.length : Int) - 1)).2
def isPaper (g : Equ) (S : List Stp) : Bool := match S.getLast? with
  | none => false
  | some (.ring ns) => match runs g S.dropLast [] with
    | some K => inR K.length ns && isRing (ns.map (eqAt K))
    | none => false
  | some (.st _ _) => match runs g S [] with
    | some K => clash (eqAt K ((K.length : Int) - 1)).1 (eqAt K ((K.length : Int) - 1)).2
    | none => false
theorem eqAt_mem {K : List Equ} {n : Int} (h0 : 0 ≤ n) (h1 : n < (K.length : Int)) : eqAt K n ∈ K := by
  unfold eqAt
  have h : n.toNat < K.length := by omega
  rw [List.getD_eq_getElem?_getD, List.getElem?_eq_getElem h]
  exact List.getElem_mem h
theorem inR_mem {m : Nat} {ns : List Int} (h : inR m ns = true) {n : Int} (hn : n ∈ ns) : 0 ≤ n ∧ n < (m : Int) := by
  unfold inR at h
  have := List.all_eq_true.mp h n hn
  simpa using this
theorem shape_len {w : Str} (hw : w ∈ five) {ns : List Int} (h : shapeOk w ns = true) : (w = "given" ∧ ns = []) ∨ (w = "turn" ∧ ∃ a, ns = [a]) ∨ (w = "through" ∧ ∃ a b, ns = [a, b]) ∨ (w = "heads" ∧ ∃ a, ns = [a]) ∨ (w = "rests" ∧ ∃ a, ns = [a]) := by
  unfold shapeOk at h
  have h := of_decide_eq_true h
  have one : ∀ {ns : List Int}, (1 : Int) = ns.length → ∃ a, ns = [a] := fun {ns} h => by
    match ns, h with
    | [a], _ => exact ⟨a, rfl⟩
    | [], h => simp at h
    | _ :: _ :: _, h => simp at h; omega
  simp only [five, List.mem_cons, List.not_mem_nil, or_false] at hw
  rcases hw with rfl | rfl | rfl | rfl | rfl
  · refine .inl ⟨rfl, ?_⟩
    have h : (0 : Int) = ns.length := h
    match ns, h with
    | [], _ => rfl
    | _ :: _, h => simp at h; omega
  · exact .inr (.inl ⟨rfl, one h⟩)
  · refine .inr (.inr (.inl ⟨rfl, ?_⟩))
    have h : (2 : Int) = ns.length := h
    match ns, h with
    | [a, b], _ => exact ⟨a, b, rfl⟩
    | [], h => simp at h
    | [_], h => simp at h
    | _ :: _ :: _ :: _, h => simp at h; omega
  · exact .inr (.inr (.inr (.inl ⟨rfl, one h⟩)))
  · exact .inr (.inr (.inr (.inr ⟨rfl, one h⟩)))
theorem shown_has {P : Trm → Trm → Prop} (flip : ∀ a b, P a b → P b a) (join : ∀ a b c, P a b → P b c → P a c) (parts : ∀ a b c d, P (.pair a b) (.pair c d) → P a c ∧ P b d)
    {K : List Equ} {g e : Equ} {w : Str} {ns : List Int} (hw : w ∈ five) (hK : ∀ e ∈ K, P e.1 e.2) (hg : P g.1 g.2) (h : shownE K g w ns = some e) : P e.1 e.2 := by
  unfold shownE at h
  split at h
  · rename_i c
    rw [Bool.and_eq_true] at c
    have at_ : ∀ n ∈ ns, P (eqAt K n).1 (eqAt K n).2 := fun n hn => hK _ (eqAt_mem (inR_mem c.1 hn).1 (inR_mem c.1 hn).2)
    have prt : ∀ (E : Equ) (hd : Bool), P E.1 E.2 → (match E with | (.pair x y, .pair u v) => some (if hd = true then (x, u) else (y, v)) | _ => none) = some e → P e.1 e.2 := by
      intro E hd hE he
      obtain ⟨a, b⟩ := E
      cases a <;> cases b <;> first | (simp only at he; cases he; done) | skip
      simp only [Option.some.injEq] at he
      subst he
      have := parts _ _ _ _ hE
      cases hd
      · exact this.2
      · exact this.1
    rcases shape_len hw c.2 with ⟨rfl, rfl⟩ | ⟨rfl, a, rfl⟩ | ⟨rfl, a, b, rfl⟩ | ⟨rfl, a, rfl⟩ | ⟨rfl, a, rfl⟩
    · have h : some g = some e := h
      cases h
      exact hg
    · have h : some ((eqAt K a).2, (eqAt K a).1) = some e := h
      cases h
      exact flip _ _ (at_ a (by simp))
    · have h : (if (eqAt K a).2 = (eqAt K b).1 then some ((eqAt K a).1, (eqAt K b).2) else none) = some e := h
      split at h
      · rename_i eq
        cases h
        refine join _ (eqAt K a).2 _ (at_ a (by simp)) ?_
        rw [eq]
        exact at_ b (by simp)
      · cases h
    · exact prt (eqAt K a) true (at_ a (by simp)) h
    · exact prt (eqAt K a) false (at_ a (by simp)) h
  · cases h
theorem runs_has {P : Trm → Trm → Prop} (flip : ∀ a b, P a b → P b a) (join : ∀ a b c, P a b → P b c → P a c) (parts : ∀ a b c d, P (.pair a b) (.pair c d) → P a c ∧ P b d) {g : Equ} (hg : P g.1 g.2) : ∀ {S : List Stp} {K L : List Equ}, (∀ x ∈ S, x.wf) → (∀ e ∈ K, P e.1 e.2) → runs g S K = some L → (∀ e ∈ L, P e.1 e.2) ∧ L.length = K.length + S.length
  | [], K, L, _, hK, h => by cases h; exact ⟨hK, rfl⟩
  | .ring _ :: _, K, L, _, _, h => by cases h
  | .st w ns :: r, K, L, hS, hK, h => by
    unfold runs at h
    cases e : shownE K g w ns with
    | none => rw [e] at h; cases h
    | some x =>
      rw [e] at h
      have hx := shown_has flip join parts (hS _ List.mem_cons_self).1 hK hg e
      have := runs_has flip join parts hg (fun y hy => hS y (List.mem_cons_of_mem _ hy)) (fun y hy => by
        rcases List.mem_append.mp hy with hy | hy
        · exact hK y hy
        · rw [List.mem_singleton.mp hy]; exact hx) h
      exact ⟨this.1, by rw [this.2, List.length_append, List.length_singleton, List.length_cons]; omega⟩
theorem clash_no {a b : Trm} (h : clash a b = true) (s : Int → Trm) : a.subst s ≠ b.subst s := by
  unfold clash at h
  intro e
  cases a <;> cases b <;> simp [Trm.isUk, Trm.isPr, Trm.subst] at h e <;> exact h e
theorem part_nums {n : Int} : ∀ {t : Trm}, isPart (.unk n) t = true → n ∈ t.nums
  | .num _, h => by simp [isPart] at h
  | .wd _, h => by simp [isPart] at h
  | .nil, h => by simp [isPart] at h
  | .unk k, h => by simp [isPart] at h; simp [Trm.nums, h]
  | .pair a b, h => by
    simp only [isPart, Bool.or_eq_true] at h
    simp only [Trm.nums, List.mem_append]
    rcases h with h | h | h
    · exact absurd (of_decide_eq_true h) (by simp)
    · exact .inl (part_nums h)
    · exact .inr (part_nums h)
theorem chain_falls {s : Int → Trm} : ∀ {E F : List Equ} {e f : Equ}, (∀ x ∈ e :: E, x.1.subst s = x.2.subst s) → (∀ x ∈ e :: E, x.1.isUk = true ∧ x.2.isPr = true) → f.1.isUk = true → chained (e :: E) (E ++ [f]) = true → (f.1.subst s).size < (e.1.subst s).size := by
  have step : ∀ {e f : Equ}, e.1.subst s = e.2.subst s → e.1.isUk = true ∧ e.2.isPr = true → f.1.isUk = true → isPart f.1 e.2 = true → (f.1.subst s).size < (e.1.subst s).size := by
    intro e f h1 h2 h3 h4
    obtain ⟨f1, f2⟩ := f
    cases f1 with
    | unk n =>
      have hn := part_nums h4
      have := subst_lt (s := s) h2.2 hn
      rw [h1]
      exact this
    | _ => cases h3
  intro E
  induction E with
  | nil =>
    intro F e f h1 h2 h3 h4
    have h4 : (isPart f.1 e.2 && true) = true := h4
    rw [Bool.and_true] at h4
    exact step (h1 e List.mem_cons_self) (h2 e List.mem_cons_self) h3 h4
  | cons x E ih =>
    intro F e f h1 h2 h3 h4
    have h4 : (isPart x.1 e.2 && chained (x :: E) (E ++ [f])) = true := h4
    rw [Bool.and_eq_true] at h4
    have a := step (h1 e List.mem_cons_self) (h2 e List.mem_cons_self) (h2 x (List.mem_cons_of_mem _ List.mem_cons_self)).1 h4.1
    have b := ih (F := F) (fun y hy => h1 y (List.mem_cons_of_mem _ hy)) (fun y hy => h2 y (List.mem_cons_of_mem _ hy)) h3 h4.2
    omega
theorem ring_no {E : List Equ} (h : isRing E = true) (s : Int → Trm) : ¬ ∀ x ∈ E, x.1.subst s = x.2.subst s := by
  intro hE
  unfold isRing at h
  cases E with
  | nil => cases h
  | cons e E =>
    rw [Bool.and_eq_true, Bool.and_eq_true] at h
    obtain ⟨_, h1, h2⟩ := h
    have h1 : ∀ x ∈ e :: E, x.1.isUk = true ∧ x.2.isPr = true := fun x hx => by
      have := List.all_eq_true.mp h1 x hx
      simpa using this
    have h2 : chained (e :: E) (E ++ [e]) = true := h2
    have := chain_falls (F := []) hE h1 (h1 e List.mem_cons_self).1 h2
    omega
theorem paper_no {g : Equ} {S : List Stp} (hS : ∀ x ∈ S, x.wf) (h : isPaper g S = true) (s : Int → Trm) : g.1.subst s ≠ g.2.subst s := by
  intro hg
  have has : ∀ {S : List Stp} {L : List Equ}, (∀ x ∈ S, x.wf) → runs g S [] = some L → (∀ e ∈ L, e.1.subst s = e.2.subst s) ∧ L.length = 0 + S.length := fun h1 h2 =>
    runs_has (P := fun a b => a.subst s = b.subst s) (fun _ _ h => h.symm) (fun _ _ _ h k => h.trans k) (fun a b c d h => by
      simp only [Trm.subst, Trm.pair.injEq] at h
      exact h) hg h1 (fun _ h => absurd h List.not_mem_nil) h2
  unfold isPaper at h
  cases el : S.getLast? with
  | none => simp only [el] at h; cases h
  | some x =>
    have hne : S ≠ [] := fun z => by rw [z] at el; cases el
    have hpos : 0 < S.length := List.length_pos_iff.mpr hne
    cases x with
    | ring ns =>
      simp only [el] at h
      cases er : runs g S.dropLast [] with
      | none => simp only [er] at h; cases h
      | some L =>
        simp only [er, Bool.and_eq_true] at h
        have z := has (fun x hx => hS x ((List.dropLast_subset S) hx)) er
        refine ring_no h.2 s fun x hx => ?_
        obtain ⟨n, hn, rfl⟩ := List.mem_map.mp hx
        exact z.1 _ (eqAt_mem (inR_mem h.1 hn).1 (inR_mem h.1 hn).2)
    | st w ns =>
      simp only [el] at h
      cases er : runs g S [] with
      | none => simp only [er] at h; cases h
      | some L =>
        simp only [er] at h
        have z := has hS er
        refine clash_no h s (z.1 _ (eqAt_mem ?_ ?_))
        · rw [z.2]; omega
        · omega
structure Knd (P : Trm → Prop) (K : List Equ) : Prop where
  all : ∀ e ∈ K, P e.1 ∧ P e.2
theorem Knd.shown {P : Trm → Prop} (parts : ∀ a b, P (.pair a b) → P a ∧ P b) {K : List Equ} {g e : Equ} {w : Str} {ns : List Int} (hw : w ∈ five) (hK : Knd P K) (hg : P g.1 ∧ P g.2) (h : shownE K g w ns = some e) : P e.1 ∧ P e.2 :=
  shown_has (P := fun a b => P a ∧ P b) (fun _ _ h => ⟨h.2, h.1⟩) (fun _ _ _ h k => ⟨h.1, k.2⟩) (fun a b c d h => ⟨⟨(parts _ _ h.1).1, (parts _ _ h.2).1⟩, (parts _ _ h.1).2, (parts _ _ h.2).2⟩) hw hK.all hg h
theorem Knd.snoc {P : Trm → Prop} {K : List Equ} {e : Equ} (hK : Knd P K) (he : P e.1 ∧ P e.2) : Knd P (K ++ [e]) := ⟨fun x hx => by
  rcases List.mem_append.mp hx with hx | hx
  · exact hK.all x hx
  · rw [List.mem_singleton.mp hx]; exact he⟩
end Ab

namespace Ab
open PySem PySem.Spec PyProof.Rows L2
section
variable {X : Cx} {pos : Pos}
def aFmt (te : ATE) : ATE := fun a m q => te a m fun x m1 => match x with
  | .str y => y.length ≤ sizeLine ∧ q (.str y) m1
  | .int i => i.natAbs.log2 < 1920 ∧ q (.str (toString i)) m1
  | _ => False
theorem ae_fmt {e : Expr} {te : ATE} (he : AE X e te) : AE X (.FormattedValue e (-1) none pos) (aFmt te) := peI (pe_fmt he) fun σ H Q ⟨a, m, q, h1, h2, h3, h4⟩ =>
  ⟨a, m, _, h1, h2, h3, fun x m1 v H1 l g r z => by
    cases x with
    | str y => cases r; exact .inl ⟨y, rfl, z.1, h4 _ _ _ _ l g (.str y) z.2⟩
    | int i => cases r; exact .inr ⟨i, rfl, z.1, h4 _ _ _ _ l g (.str _) z.2⟩
    | _ => exact z.elim⟩
def aJs : List ATE → Str → ASt → AHp → AK → Prop
  | [], acc, _, m, q => q (.str acc) m
  | t :: ts, acc, a, m, q => t a m fun x m1 => match x with
    | .str y => (acc ++ y).length ≤ sizeLine ∧ aJs ts (acc ++ y) a m1 q
    | _ => False
def aFs (ts : List ATE) : ATE := fun a m q => aJs ts Str.empty a m q
theorem js_of {K : PySem.W.Frag} : ∀ (ts : List ATE) (acc : Str) (a : ASt) (m : AHp) (q : AK) (σ : L2.St) (H : Hp) (Q : VK), SimS K H a σ → SimH K H m → aJs ts acc a m q → KE K H q Q →
    tJs (ts.map (clE K)) acc σ H fun out H1 => Q (.str out) H1
  | [], acc, a, m, q, σ, H, Q, h1, h2, h3, h4 => h4 _ m _ H .refl h2 (.str acc) h3
  | t :: ts, acc, a, m, q, σ, H, Q, h1, h2, h3, h4 => ⟨a, m, _, h1, h2, h3, fun x m1 v H1 l g r z => by
    cases x with
    | str y => cases r; exact ⟨y, rfl, z.1, js_of ts _ a m1 q σ H1 Q (h1.mono l) g z.2 (h4.mono l)⟩
    | _ => exact z.elim⟩
inductive AJ (X : Cx) : List Expr → List ATE → Prop where
  | nil : AJ X [] []
  | cons {e : Expr} {t : ATE} {es : List Expr} {ts : List ATE} (h : AE X e t) (r : AJ X es ts) : AJ X (e :: es) (t :: ts)
theorem AJ.pj {es : List Expr} {ts : List ATE} (h : AJ X es ts) : PJ X es (ts.map (clE X.K)) := by
  induction h with
  | nil => exact .nil
  | cons h r ih => exact .cons h ih
theorem ae_fs {v1 v2 : Expr} {rest : List Expr} {ts : List ATE} (h : AJ X (v1 :: v2 :: rest) ts) : AE X (.JoinedStr (v1 :: v2 :: rest) pos) (aFs ts) := peI (pe_joined h.pj) fun σ H Q ⟨a, m, q, h1, h2, h3, h4⟩ =>
  js_of ts Str.empty a m q σ H Q h1 h2 h3 h4
def bText : AL := fun xs0 m0 q0 => one (fun x m q => match x with
  | .str y => q (.str y) m
  | .int i => i.natAbs.log2 < 1920 ∧ q (.str (toString i)) m
  | _ => False) xs0 m0 q0
theorem cb_str : CallR X (.type "str") (clL X.K bText) := cr_one fun pins s σ H v Q x m q us I rv s1 g z k => by
  cases x with
  | int i => cases s1; exact call_str_int pins s σ H _ us Q I rv ⟨i, rfl, z.1, k _ _ _ _ .refl g (.str _) z.2⟩
  | str y => cases s1; exact SkE.call_str_str pins s σ H _ us Q I rv ⟨y, rfl, k _ _ _ _ .refl g (.str _) z⟩
  | _ => exact z.elim
def bOfText : AL := fun xs0 m0 q0 => one (fun x m q => match x with
  | .str y => y.length ≤ 640 ∧ ∃ n, PySem.intText? y = some n ∧ q (.int n) m
  | _ => False) xs0 m0 q0
theorem cb_intS : CallR X (.type "int") (clL X.K bOfText) := cr_one fun pins s σ H v Q x m q us I rv s1 g z k => by
  cases x with
  | str y =>
    obtain ⟨z1, n, z2, z3⟩ := z
    cases s1
    exact call_int_str pins s σ H _ us Q I rv ⟨y, n, rfl, z2, z1, k _ _ _ _ .refl g (.int _) z3⟩
  | _ => exact z.elim
end
def fA (mg : Str → Option Value) (x : Str) : Addr := match mg x with
  | some (.ref a) => a
  | _ => 0
theorem fA_of {mg : Str → Option Value} {x : Str} {f : Addr} (h : mg x = some (.ref f)) : fA mg x = f := by
  unfold fA
  rw [h]
section
variable {X : Cx} {p pos : Pos}
theorem ae_fn {x : Str} {st : Stmt} {ps : List Str} (hg : Gl X x) (h : Top X.K X.mg x st ps) (hd : (x == ("__debug__" : Str)) = false := by decide) : AE X (.Name x pos) (aC (.ref (fA X.mg x))) := by
  obtain ⟨f, fd, hm, _⟩ := h.ex
  rw [fA_of hm]
  exact ae_c (pe_glob (v := .ref f) hg hm rfl hd) fun _ => .ref f
def aCallV (i : Nat) (cs : List (Addr × ASp)) (t : ATA) : ATE := fun a m q => ∃ f sp, (f, sp) ∈ cs ∧ slot a i = some (.ref f) ∧ t a m fun xs m1 => sp xs m1 q
inductive Defs (P : Program) (w : World) (K : PySem.W.Frag) (mg : Str → Option Value) (base : Heap) (k : Nat) : List (Addr × ASp) → Prop where
  | nil : Defs P w K mg base k []
  | cons {x : Str} {ps : List Str} {sp : ASp} {cs : List (Addr × ASp)} (d : Def P w K mg base k x ps sp) (r : Defs P w K mg base k cs) : Defs P w K mg base k ((fA mg x, sp) :: cs)
theorem Defs.at {P : Program} {w : World} {K : PySem.W.Frag} {mg : Str → Option Value} {base : Heap} {k : Nat} {cs : List (Addr × ASp)} (h : Defs P w K mg base k cs) {f : Addr} {sp : ASp} (e : (f, sp) ∈ cs) :
    ∃ x ps, mg x = some (.ref f) ∧ Def P w K mg base k x ps sp := by
  induction h with
  | nil => cases e
  | @cons x ps sp0 cs d r ih =>
    rcases List.mem_cons.mp e with e | e
    · cases e
      obtain ⟨f, fd, hm, _⟩ := d.ex
      exact ⟨x, ps, by rw [fA_of hm]; exact hm, d⟩
    · exact ih e
theorem ae_callV {i k j : Nat} {x : Str} {cs : List (Addr × ASp)} {e : Expr} {es : List Expr} {t : ATA} (D : Defs X.prog X.w X.K X.mg X.base k cs) (hr : Room j X.A) (hkj : k ≤ j) (hgd : X.A.guards = some []) (hv : PE X (.Name x p) (tVar i)) (ha : AA X (e :: es) t)
    (se : starEach (e :: es) X.env = (false, eval e X.env) :: starEach es X.env := by rfl) (sp0 : (backTo pos (starEach es X.env)).any (·.1) = false := by rfl) : AE X (.Call (.Name x p) (e :: es) [] pos) (aCallV i cs t) := by
  refine ⟨fun pins s σ H Q I ⟨a, m, q, h1, h2, ⟨f, sp, hf, hs, ht⟩, h4⟩ => ?_⟩
  obtain ⟨y, ps, hm, d⟩ := D.at hf
  obtain ⟨f', fd, hm', hk, hb, F⟩ := d.ex
  have ef : f' = f := by rw [hm] at hm'; cases hm'; rfl
  subst ef
  obtain ⟨v, g1, g2⟩ := h1.get i _ (slot_get hs)
  cases g2
  refine wpAny_Call_Name_kw (thn (hv.run pins s σ H (fun v H1 => v = .ref f' ∧ H1 = H) I ⟨.ref f', g1, rfl, rfl⟩) fun u s1 ⟨v, H1, I1, r1, q1⟩ => ?_)
  obtain ⟨rfl, rfl⟩ := q1
  cases r1
  refine PySem.W.callWith_K (h₀ := X.base) I.ok.mod.kin hk (thn (ha.run pos pins s1 σ _ (fun vs H2 => clF X.K sp vs H2 Q E0) I1 ⟨a, m, _, h1, h2, ht, fun xs m1 vs H2 l g r z => ⟨xs, m1, q, r, g, z, h4.mono l⟩⟩) fun us s2 ⟨vs, H2, I2, r, q2⟩ => ⟨I2.kIn, ?_⟩) se sp0
  exact callG F (hr.mono hkj) hgd hb .nil pass0 I2 r (by rw [List.append_nil]; exact q2)
end
end Ab

namespace Ab
open PySem PySem.Spec PyProof.Rows L2
def Mods (h : Heap) : Prop := ∃ mm, h.Ns sysModules mm
section
variable {P : Program} {w : World} {K : PySem.W.Frag} {mg mb : Str → Option Value} {k : Nat} {fa a : Addr} {fd : FuncData} {x : Str} {t₁ : Shared} {vs : List Value} {ns : List Int}
theorem call_atM {J : Hp} (kx : K.In t₁.heap) (nsm : t₁.heap.Ns mainGlobals mg) (nsb : t₁.heap.Ns builtinsNs mb) (mods : Mods t₁.heap) (mbb : ∀ x : Str, x ≠ "__name__" → mb x = bootBuiltins x) (lim : t₁.heap.NoLimit) (gs : t₁.gens = #[])
    (here : t₁.heap.get? a = some { cls := .type "list", data := .seq vs.toArray }) (rm : Room k callerA) (F : ∀ base : Heap, K.In base → base.Ns mainGlobals mg → Mods base → AFn P w K mg base k fa fd [x] spEnd)
    (bd : ∀ (s : Shared) (u : Value), BindsTo s fd ⟨[u], []⟩ [(x, u)]) (only : Only J) (sq : SqL K J a (ns.map V.int)) (jok : HOk P w J t₁.heap) (one : ∀ b, J b ≠ none → b = a) (out : J a ≠ none → K.lookup a = none) :
    codeAny (model P w) callerA (.call (.ref fa) ⟨[.ref a], []⟩) (fun r t' => r = .ok (.ret (.bool true)) ∧ OldK t₁.heap t'.heap ∧ t'.os = t₁.os ∧ AllBare t'.gens) t₁ := by
  have there : ∀ {b : Addr} {o : Obj}, t₁.heap.get? b = some o → (J b ≠ none → False) → (hidT t₁.heap J).get? b = some o := fun {b o} e n => hidT_get e (by
    cases q : J b with
    | none => rfl
    | some u => exact (n (by rw [q]; exact fun z => by cases z)).elim)
  have nsK : ∀ {b : Addr} {m : Str → Option Value}, t₁.heap.Ns b m → (hidT t₁.heap J).Ns b m := by
    rintro b m ⟨o, es, ep, e, d, r⟩
    refine ⟨o, es, ep, there e fun n => ?_, d, r⟩
    obtain rfl := one b n
    rw [here] at e
    cases e
    have z : Data.seq vs.toArray _ = Data.dict es ep := d
    cases z
  have kb : K.In (hidT t₁.heap J) := fun b o e => there (kx b o e) fun n => by
    obtain rfl := one b n
    rw [out n] at e
    cases e
  have hm : Mod K mg (hidT t₁.heap J) := ⟨kb, nsK nsm, ⟨mb, nsK nsb, mbb⟩, by obtain ⟨mc, h1, h2⟩ := lim; exact ⟨mc, nsK h1, h2⟩⟩
  have env : Env0 P w K mg (hidT t₁.heap J) callerA [] t₁ J := ⟨rfl, hm, fun _ _ e => of_hidT e, Nat.le_of_eq (hidT_size _ _), trivial, fun b hb => (List.not_mem_nil hb).elim, jok, .of_eq gs⟩
  have run := (F _ kb (nsK nsm) (mods.imp fun _ h => nsK h)).go callerA [] t₁ J ⟨[.ref a], []⟩ [.ref a] [.ref a] _ _ rm rfl env (bd t₁ (.ref a)) (.cons rfl .nil) (sp_end only sq)
  refine codeAny_mono run fun r t' h => ?_
  match r, h with
  | .error e, h => exact False.elim h
  | .ok .next, h => exact False.elim h
  | .ok .brk, h => exact False.elim h
  | .ok .cont, h => exact False.elim h
  | .ok (.ret u), h =>
    obtain ⟨v, J', os, bare, un, jok', rv, q⟩ := h
    have q : v = .bl true := q
    subst q
    have rv : u = Value.bool true := rv
    subst rv
    refine ⟨rfl, OldK.of_keep fun b o e => ?_, os, bare⟩
    cases q : J b with
    | none => exact un.keep b o e q (fun z => (List.not_mem_nil z).elim) (by simp)
    | some u =>
      rcases only b with z | ⟨ob, xs, z⟩
      · rw [q] at z; cases z
      · have e1 := (jok b _ z).1
        have e2 := (jok' b _ (un.frzs b ob _ z)).1
        rw [e] at e1
        cases e1
        exact e2
theorem call_endM (kx : K.In t₁.heap) (nsm : t₁.heap.Ns mainGlobals mg) (nsb : t₁.heap.Ns builtinsNs mb) (mods : Mods t₁.heap) (mbb : ∀ x : Str, x ≠ "__name__" → mb x = bootBuiltins x) (lim : t₁.heap.NoLimit) (gs : t₁.gens = #[])
    (here : t₁.heap.get? a = some { cls := .type "list", data := .seq vs.toArray }) (nums : IntsAre vs ns) (most : ns.length ≤ sizeLine) (rm : Room k callerA)
    (F : ∀ base : Heap, K.In base → base.Ns mainGlobals mg → Mods base → AFn P w K mg base k fa fd [x] spEnd) (bd : ∀ (s : Shared) (u : Value), BindsTo s fd ⟨[u], []⟩ [(x, u)]) :
    codeAny (model P w) callerA (.call (.ref fa) ⟨[.ref a], []⟩) (fun r t' => r = .ok (.ret (.bool true)) ∧ OldK t₁.heap t'.heap ∧ t'.os = t₁.os ∧ AllBare t'.gens) t₁ := by
  have rel := vals_ints nums
  have lens := nums.length
  cases own : K.lookup a with
  | some o =>
    have e := kx a o own
    rw [here] at e
    cases e
    exact call_atM (J := fun _ => none) kx nsm nsb mods mbb lim gs here rm F bd (fun _ => .inl rfl)
      (.inr ⟨_, vs.toArray, _, own, rfl, rfl, rfl, by rw [List.size_toArray, lens]; exact most, by simpa using rel⟩)
      (fun b u z => by cases z) (fun b z => (z rfl).elim) (fun z => (z rfl).elim)
  | none =>
    let J : Hp := fun b => if b = a then some (.frz { cls := .type "list", data := .seq vs.toArray } (.lst (ns.map V.int))) else none
    have ja : J a = some (.frz { cls := .type "list", data := .seq vs.toArray } (.lst (ns.map V.int))) := if_pos rfl
    have jb : ∀ b, b ≠ a → J b = none := fun b h => if_neg h
    refine call_atM (J := J) kx nsm nsb mods mbb lim gs here rm F bd (fun b => ?_) (.inl (.inr ⟨_, ja⟩)) (fun b u z => ?_) (fun b z => ?_) (fun _ => own)
    · by_cases h : b = a
      · subst h
        exact .inr ⟨_, _, ja⟩
      · exact .inl (jb b h)
    · by_cases h : b = a
      · subst h
        rw [ja] at z
        cases z
        exact ⟨here, by rw [List.length_map]; exact most, vs, _, rel, here⟩
      · rw [jb b h] at z
        cases z
    · by_cases h : b = a
      · exact h
      · exact (z (jb b h)).elim
end
theorem walk_endM {l : PySem.W.OpenLaw} {n k : Nat} {q : Program} {loose : List Str} {XP : (Str → Option Value) → Heap → Prop} {YP : World → Heap → Prop} {d : DefRec} {K : Params → PySem.W.Frag} {x : Str}
    (most : l.most = some n) (small : n ≤ sizeLine) (nod : d.params.defaults = []) (rm : Room k callerA) (yk : ∀ (w : World) (h : Heap), YP w h → (K w.params).In h) (imp : importsNone q = true)
    (F : ∀ (w : World) (mg : Str → Option Value) (fa : Addr) (h : Heap), (K w.params).In h → h.Ns mainGlobals mg → mg d.name = some (.ref fa) →
      ∃ fd : FuncData, (∀ (s : Shared) (u : Value), BindsTo s fd ⟨[u], []⟩ [(x, u)]) ∧ ∀ base : Heap, (K w.params).In base → base.Ns mainGlobals mg → Mods base → AFn l.prog w (K w.params) mg base k fa fd [x] spEnd) :
    PySem.W.WalkO q loose XP YP l.row.toRowW d [] (fun f vs => PySem.call f vs) :=
  Att.attach_call most nod fun w s₀ t₁ mg mb fa o pm cd doc a vs ns G Y ho hd hcd hmg here nums size gs => by
    obtain ⟨fd, bd, pr⟩ := F w mg fa _ (yk w _ Y) G.T.g hmg
    obtain ⟨mm, hmm, -⟩ := (G.T.seer imp).mods
    exact call_endM (yk w _ Y) G.T.g G.T.b ⟨mm, hmm⟩ G.T.builtins G.T.nolimit gs here nums (Nat.le_trans size small) rm pr bd
end Ab

namespace Ab
open PySem PySem.Spec PyProof.Rows L2
def keyD : Key → PyData
  | .inl i => .int i
  | .inr x => .str x
mutual
inductive OdAt (m : AHp) : PyData → AV → Prop
  | non : OdAt m .none .non
  | bl (b : Bool) : OdAt m (.bool b) (.bl b)
  | int (i : Int) : OdAt m (.int i) (.int i)
  | str (x : Str) : OdAt m (.str x) (.str x)
  | tup {ds : List PyData} {xs : List AV} (h : OdsAt m ds xs) : OdAt m (.tuple ds) (.tup xs)
  | lst {a : Addr} {ds : List PyData} {xs : List AV} (e : m a = some (.lst xs)) (h : OdsAt m ds xs) : OdAt m (.list ds) (.ref a)
  | dic {a : Addr} {ps : List (PyData × PyData)} {kvs : List (Key × AV)} (e : m a = some (.dK kvs)) (h : OdKs m ps kvs) : OdAt m (.dict ps) (.ref a)
inductive OdsAt (m : AHp) : List PyData → List AV → Prop
  | nil : OdsAt m [] []
  | cons {d : PyData} {x : AV} {ds : List PyData} {xs : List AV} (h : OdAt m d x) (r : OdsAt m ds xs) : OdsAt m (d :: ds) (x :: xs)
inductive OdKs (m : AHp) : List (PyData × PyData) → List (Key × AV) → Prop
  | nil : OdKs m [] []
  | cons {d : PyData} {x : AV} {k : Key} {ps : List (PyData × PyData)} {kvs : List (Key × AV)} (h : OdAt m d x) (r : OdKs m ps kvs) : OdKs m ((keyD k, d) :: ps) ((k, x) :: kvs)
end
section
variable {m m' : AHp}
mutual
theorem OdAt.mono (s : Sub m m') : ∀ {d : PyData} {x : AV}, OdAt m d x → OdAt m' d x
  | _, _, .non => .non
  | _, _, .bl b => .bl b
  | _, _, .int i => .int i
  | _, _, .str x => .str x
  | _, _, .tup h => .tup (OdsAt.mono s h)
  | _, _, .lst e h => .lst (s _ _ e) (OdsAt.mono s h)
  | _, _, .dic e h => .dic (s _ _ e) (OdKs.mono s h)
theorem OdsAt.mono (s : Sub m m') : ∀ {ds : List PyData} {xs : List AV}, OdsAt m ds xs → OdsAt m' ds xs
  | _, _, .nil => .nil
  | _, _, .cons h r => .cons (OdAt.mono s h) (OdsAt.mono s r)
theorem OdKs.mono (s : Sub m m') : ∀ {ps : List (PyData × PyData)} {kvs : List (Key × AV)}, OdKs m ps kvs → OdKs m' ps kvs
  | _, _, .nil => .nil
  | _, _, .cons h r => .cons (OdAt.mono s h) (OdKs.mono s r)
end
end
section
variable {X : Cx} {pins : List (Addr × Obj)} {σ : L2.St} {H : Hp} {s : Shared} {m : AHp}
theorem no_mods (I : Inv X pins σ H s) (hm : Mods X.base) {a : Addr} {o : Obj} {vs : Array Value} {n : Nat} (e : s.heap.get? a = some o) (d : o.data = .seq vs n) : sysModules ≠ a := by
  rintro rfl
  obtain ⟨mm, ob, es, ep, e2, d2, -⟩ := hm
  have e3 := I.bk _ _ e2
  rw [e] at e3
  cases e3
  rw [d] at d2
  cases d2
theorem key_reads {P : Program} {w : World} {h : Heap} {k : Key} {v : Value} (p : (mixKind P w).is k v = true) : PySem.Reads h v (keyD k) [] := by
  rcases keyIs_shape p with ⟨i, t, e1, e2⟩ | ⟨x, t, e1, e2⟩
  · rw [e1, e2]; exact .int i t
  · rw [e1, e2]; exact .str x t
mutual
theorem od_reads (I : Inv X pins σ H s) (hm : Mods X.base) (g : SimH X.K H m) : ∀ {d : PyData} {x : AV} {v : V} {u : Value}, OdAt m d x → SimV X.K H x v → RelV v u → ∃ as, PySem.Reads s.heap u d as ∧ sysModules ∉ as
  | _, _, _, _, .non, r, ru => by
    cases r
    cases ru
    exact ⟨_, .none, List.not_mem_nil⟩
  | _, _, _, _, .bl b, r, ru => by
    cases r
    cases ru
    exact ⟨_, .bool b, List.not_mem_nil⟩
  | _, _, _, _, .int i, r, ru => by
    cases r
    obtain ⟨t, rfl⟩ := ru
    exact ⟨_, .int i t, List.not_mem_nil⟩
  | _, _, _, _, .str x, r, ru => by
    cases r
    obtain ⟨t, rfl⟩ := ru
    exact ⟨_, .str x t, List.not_mem_nil⟩
  | _, _, _, _, .tup h, r, ru => by
    cases r with
    | tup hp hs =>
      cases ru
      obtain ⟨its, rv, ⟨o, ho, hc, n, hd⟩, _⟩ := I.tuple hp.sq
      obtain ⟨as, hr, nn⟩ := od_readsAll I hm g h hs rv
      exact ⟨_, .tuple ho hc hd hr, nn⟩
  | _, _, _, _, .lst e h, r, ru => by
    cases r
    cases ru
    obtain ⟨ws, f1, f2⟩ := g _ _ e
    obtain ⟨its, rv, ⟨o, n, ho, hc, _, hd⟩, _⟩ := I.list (SqL.of f1)
    obtain ⟨as, hr, nn⟩ := od_readsAll I hm g h f2 rv
    refine ⟨_, .list ho hc hd hr, fun z => ?_⟩
    rcases List.mem_cons.mp z with z | z
    · exact no_mods I hm ho hd z
    · exact nn z
  | _, _, _, _, .dic e h, r, ru => by
    cases r
    cases ru
    obtain ⟨ws, f1, f2⟩ := g _ _ e
    obtain ⟨z, ns, vs, kv, o, es, ep, ho, hx, hd, -, hp, -⟩ := dk_of I.hok f1
    obtain ⟨as, bs, h1, h2, n1, n2⟩ := od_readsKs I hm g h f2 kv hp
    refine ⟨_, .dict ho hx.1 hd h1 h2, fun z => ?_⟩
    rcases List.mem_append.mp z with z | z
    · rcases List.mem_cons.mp z with z | z
      · rw [z, beq_self_eq_true] at ns; cases ns
      · exact n1 z
    · exact n2 z
theorem od_readsAll (I : Inv X pins σ H s) (hm : Mods X.base) (g : SimH X.K H m) : ∀ {ds : List PyData} {xs : List AV} {vs : List V} {us : List Value}, OdsAt m ds xs → SimVs X.K H xs vs → Vals vs us → ∃ as, ReadsAll s.heap us ds as ∧ sysModules ∉ as
  | _, _, _, _, .nil, r, ru => by
    cases r
    cases ru
    exact ⟨_, .nil, List.not_mem_nil⟩
  | _, _, _, _, .cons h hr, r, ru => by
    cases r with
    | cons r1 r2 =>
      cases ru with
      | cons u1 u2 =>
        obtain ⟨as, q1, n1⟩ := od_reads I hm g h r1 u1
        obtain ⟨bs, q2, n2⟩ := od_readsAll I hm g hr r2 u2
        refine ⟨_, .cons q1 q2, fun z => ?_⟩
        rcases List.mem_append.mp z with z | z
        · exact n1 z
        · exact n2 z
theorem od_readsKs (I : Inv X pins σ H s) (hm : Mods X.base) (g : SimH X.K H m) : ∀ {ps : List (PyData × PyData)} {kvs : List (Key × AV)} {ws : List (Key × V)} {vs : List (Key × Value)} {es : List DictEntry}, OdKs m ps kvs → SimK X.K H kvs ws → KV ws vs → Pairs (mixKind X.prog X.w) es vs →
    ∃ as bs, ReadsAll s.heap (es.map (·.key)) (ps.map (·.1)) as ∧ ReadsAll s.heap (es.map (·.val)) (ps.map (·.2)) bs ∧ sysModules ∉ as ∧ sysModules ∉ bs
  | _, _, _, _, _, .nil, r, rk, rp => by
    cases r
    cases rk
    cases rp
    exact ⟨_, _, .nil, .nil, List.not_mem_nil, List.not_mem_nil⟩
  | _, _, _, _, _, .cons (k := k) h hr, r, rk, rp => by
    cases r with
    | cons r1 r2 =>
      cases rk with
      | cons k1 k2 =>
        cases rp with
        | cons p1 p2 p3 =>
          obtain ⟨as, q1, n1⟩ := od_reads I hm g h r1.2 k1.2
          obtain ⟨bs, cs, q2, q3, n2, n3⟩ := od_readsKs I hm g hr r2 k2 p3
          rw [← p2] at q1
          rw [← k1.1, ← r1.1] at p1
          refine ⟨_, _, .cons (key_reads p1) q2, .cons q1 q3, n2, fun z => ?_⟩
          rcases List.mem_append.mp z with z | z
          · exact n1 z
          · exact n3 z
end
end
def bReprO : AL := fun xs0 m0 q0 => one (fun x m q => ∃ d, OdAt m d x ∧ d.showable = true ∧ d.depth ≤ 150 ∧ d.shown.length ≤ sizeLine ∧ q (.str d.shown) m) xs0 m0 q0
theorem cb_reprO {X : Cx} (hm : Mods X.base) (hu : X.A.units + 164 < cLine) (hg : X.A.guards = some []) : CallR X (.builtin "repr") (clL X.K bReprO) := cr_one fun pins s σ H v Q x m q us I rv s1 g z k => by
  obtain ⟨d, od, hs, hd, hz, z⟩ := z
  cases rv with
  | cons r1 rr =>
    cases rr
    obtain ⟨as, rd, nn⟩ := od_reads I hm g od s1 r1
    have line : ∀ {a : Addr}, PySem.Reads s.heap (.ref a) d as → wpAny (model X.prog X.w) X.A (call (.builtin "repr") [.ref a]) (EP X pins σ Q) X.xe s := fun {a} rd => by
      refine repr_of_reads' rd hs (fun _ => nn) hg (by omega) (fun _ _ e => e) (fun h' u tk kp => ?_) hz
      exact ⟨.str d.shown, H, I.kept kp, ⟨_, rfl⟩, k _ _ _ _ .refl g (.str _) z⟩
    cases od with
    | non =>
      cases s1
      cases r1
      simp only [PyData.shown] at z
      exact PySem.P.repr_of_none ⟨.str "None", H, I.tok _, ⟨_, rfl⟩, k _ _ _ _ .refl g (.str _) z⟩
    | bl b =>
      cases s1
      cases r1
      simp only [PyData.shown] at z
      exact PySem.P.repr_of_bool ⟨.str _, H, I.tok _, ⟨_, rfl⟩, k _ _ _ _ .refl g (.str _) z⟩
    | int i =>
      cases s1
      obtain ⟨t, rfl⟩ := r1
      simp only [PyData.shown] at z
      simp only [PyData.showable, decide_eq_true_eq] at hs
      exact PySem.P.repr_of_int hs ⟨.str _, H, I.tok _, ⟨_, rfl⟩, k _ _ _ _ .refl g (.str _) z⟩
    | str y =>
      cases s1
      obtain ⟨t, rfl⟩ := r1
      simp only [PyData.shown] at z hz
      exact PySem.P.repr_of_str ⟨.str _, H, I.tok _, ⟨_, rfl⟩, k _ _ _ _ .refl g (.str _) z⟩ hz
    | tup h =>
      cases s1 with
      | tup hp hs =>
        cases r1
        exact line rd
    | lst e h =>
      cases s1
      cases r1
      exact line rd
    | dic e h =>
      cases s1
      cases r1
      exact line rd
end Ab

namespace Ab
open PySem PySem.Spec PyProof.Rows L2
section
variable {X : Cx} {pos : Pos}
def bEq0 (f : Bool → Bool) : AR2 := fun x y m q => match x, y with
  | .tup xs, .tup [] => q (.bl (f xs.isEmpty)) m
  | x, y => bEqB f x y m q
theorem tup_empty {pins : List (Addr × Obj)} {s : Shared} {σ : L2.St} {H : Hp} {xs : List AV} {v w : V} {u1 u2 : Value} (I : Inv X pins σ H s) (r1 : RelV v u1) (r2 : RelV w u2) (s1 : SimV X.K H (.tup xs) v) (s2 : SimV X.K H (.tup []) w) :
    ∃ a b its, u1 = .ref a ∧ u2 = .ref b ∧ s.heap.IsTuple a its ∧ s.heap.IsTuple b #[] ∧ (its.size == 0) = xs.isEmpty := by
  cases s1 with
  | tup p1 h1 =>
    cases s2 with
    | tup p2 h2 =>
      cases h2
      cases r1
      cases r2
      obtain ⟨its, rv, it, _⟩ := I.tuple p1.sq
      obtain ⟨its2, rv2, it2, _⟩ := I.tuple p2.sq
      cases rv2
      refine ⟨_, _, its.toArray, rfl, rfl, it, it2, ?_⟩
      have l1 := h1.length
      have l2 := Vals.length rv
      cases xs with
      | nil =>
        have : its.length = 0 := by rw [← l2, ← l1]; rfl
        simp [this]
      | cons x xs =>
        have : its.length ≠ 0 := by rw [← l2, ← l1]; simp
        simp [this]
theorem ob_eq0 (hu : X.A.units + 164 < cLine) : OpR X (compareOp .Eq) (cl2 X.K (bEq0 id)) := by
  intro pins s σ H v w u1 u2 Q I r1 r2 ⟨x, y, m, q, s1, s2, g, z, k⟩
  have usual : bEq x y m q → wpAny (model X.prog X.w) X.A (compareOp .Eq u1 u2) (EP X pins σ Q) X.xe s := fun z => ob_eq hu pins s σ H v w u1 u2 Q I r1 r2 ⟨x, y, m, q, s1, s2, g, z, k⟩
  cases x with
  | tup xs =>
    cases y with
    | tup ys =>
      cases ys with
      | nil =>
        obtain ⟨a, b, its, rfl, rfl, it, it2, e⟩ := tup_empty I r1 r2 s1 s2
        refine SeqAt.RcAt.tuples (e := fun _ => true) it it2 (by omega) (fun j _ h2 => absurd h2 (by simp)) _ _ _ _ ?_
        refine ⟨.bl xs.isEmpty, H, I, ?_, k _ _ _ _ .refl g (.bl _) z⟩
        rw [← e]
        simp
        rfl
      | cons _ _ => exact usual z
    | _ => exact usual z
  | _ => exact usual z
theorem ob_ne0 (hu : X.A.units + 164 < cLine) : OpR X (compareOp .NotEq) (cl2 X.K (bEq0 not)) := by
  intro pins s σ H v w u1 u2 Q I r1 r2 ⟨x, y, m, q, s1, s2, g, z, k⟩
  have usual : bNe x y m q → wpAny (model X.prog X.w) X.A (compareOp .NotEq u1 u2) (EP X pins σ Q) X.xe s := fun z => ob_ne hu pins s σ H v w u1 u2 Q I r1 r2 ⟨x, y, m, q, s1, s2, g, z, k⟩
  cases x with
  | tup xs =>
    cases y with
    | tup ys =>
      cases ys with
      | nil =>
        obtain ⟨a, b, its, rfl, rfl, it, it2, e⟩ := tup_empty I r1 r2 s1 s2
        refine SeqAt.RcNeAt.tuples (e := fun _ => true) it it2 (by omega) (fun j _ h2 => absurd h2 (by simp)) _ _ _ _ ?_
        refine ⟨.bl (!xs.isEmpty), H, I, ?_, k _ _ _ _ .refl g (.bl _) z⟩
        rw [← e]
        simp
        rfl
      | cons _ _ => exact usual z
    | _ => exact usual z
  | _ => exact usual z
def bSubB : AR2 := fun x y m q => match x, y with
  | .int i, .int j => q (.int (i - j)) m
  | .int i, .bl b => q (.int (i - if b = true then 1 else 0)) m
  | _, _ => False
theorem ob_subB : OpR X (binaryOp .Sub) (cl2 X.K bSubB) := by
  intro pins s σ H v w u1 u2 Q I r1 r2 ⟨x, y, m, q, s1, s2, g, z, k⟩
  cases x <;> cases y <;> first | exact z.elim | skip
  · rename_i i b
    cases s1; cases s2
    cases r2
    obtain ⟨t, rfl⟩ := r1
    exact IntBool.sub_int_bool ⟨.int _, H, I.tok _, ⟨_, rfl⟩, k _ _ _ _ .refl g (.int _) z⟩
  · exact ob_sub pins s σ H v w u1 u2 Q I r1 r2 ⟨_, _, m, q, s1, s2, g, z, k⟩
def bTextB : AL := fun xs0 m0 q0 => one (fun x m q => match x with
  | .str y => q (.str y) m
  | .int i => i.natAbs.log2 < 1920 ∧ q (.str (toString i)) m
  | .bl b => q (.str (if b = true then "True" else "False")) m
  | _ => False) xs0 m0 q0
theorem cb_strB : CallR X (.type "str") (clL X.K bTextB) := cr_one fun pins s σ H v Q x m q us I rv s1 g z k => by
  cases x with
  | int i => cases s1; exact call_str_int pins s σ H _ us Q I rv ⟨i, rfl, z.1, k _ _ _ _ .refl g (.str _) z.2⟩
  | str y => cases s1; exact SkE.call_str_str pins s σ H _ us Q I rv ⟨y, rfl, k _ _ _ _ .refl g (.str _) z⟩
  | bl b =>
    cases s1
    obtain ⟨u, rfl, r1⟩ := vals1 rv
    cases r1
    exact PySem.P.str_of_bool ⟨.str _, H, I.tok _, ⟨_, rfl⟩, k _ _ _ _ .refl g (.str _) z⟩
  | _ => exact z.elim
def aUpper (te : ATE) : ATE := fun a m q => te a m fun x m1 => match x with
  | .str z => z.length ≤ 5592405 ∧ q (.str (Txt.upper z)) m1
  | _ => False
theorem ae_upper {o : Expr} {to : ATE} {apos : Pos} (ho : AE X o to) (hbase : attributeBase o "upper" X.env (eval o X.env) = eval o X.env := by rfl) (hline : (apos.endLine == pos.line) = true := by rfl) :
    AE X (.Call (.Attribute o "upper" apos) [] [] pos) (aUpper to) := peI (pe_upper ho hbase hline) fun σ H Q ⟨a, m, q, h1, h2, h3, h4⟩ => by
  refine ⟨a, m, _, h1, h2, h3, fun x m1 v H1 l g r z => ?_⟩
  cases x with
  | str y => cases r; exact ⟨⟨y, rfl⟩, y, rfl, rfl, z.1, h4 _ _ _ _ l g (.str _) z.2⟩
  | _ => exact z.elim
def aPar3 (i j l : Nat) (ta : ATA) : ATS := fun d a m => ta a m fun xs m1 => match xs with
  | [x, y, z] => d.nx (put (put (put a i x) j y) l z) m1
  | _ => False
theorem as_par3 {i j l : Nat} {x y z : Str} {a b c : Expr} {ta : ATA} {px py pz pt : Pos} {kt k2 pt2} (hc : X.calm = true) (hN : X.N.Nodup) (hi : X.N[i]? = some x) (hj : X.N[j]? = some y) (hl : X.N[l]? = some z) (hij : i ≠ j) (hil : i ≠ l) (hjl : j ≠ l)
    (hx : X.env.scope.names.lookup x = some .local) (hy : X.env.scope.names.lookup y = some .local) (hz : X.env.scope.names.lookup z = some .local) (ha : AA X [a, b, c] ta)
    (hw : swappedStores [.Tuple [.Name x px, .Name y py, .Name z pz] kt pt] (.Tuple [a, b, c] k2 pt2) X.env = pure (some [x, y, z]))
    (hs : swapsWithSole [.Tuple [.Name x px, .Name y py, .Name z pz] kt pt] (.Tuple [a, b, c] k2 pt2) pos.line X.env = pure false := by rfl) :
    AS X (.Assign [.Tuple [.Name x px, .Name y py, .Name z pz] kt pt] (.Tuple [a, b, c] k2 pt2) pos) (aPar3 i j l ta) := psI (ps_par3 hc hN hi hj hl hij hil hjl hx hy hz ha hw hs) fun D σ H ⟨a, m, d, h1, h2, h3, h4⟩ => by
  refine ⟨a, m, _, h1, h2, h3, fun xs m1 vs H1 l' g1 r q => ?_⟩
  match xs, r, q with
  | [x, y, z], .cons r1 (.cons r2 (.cons r3 .nil)), q => exact ⟨_, _, _, rfl, h4.nx _ m1 _ H1 l' ((((h1.mono l').put r1 i).put r2 j).put r3 l) g1 q⟩
  | [], _, q => exact q.elim
  | [_], _, q => exact q.elim
  | [_, _], _, q => exact q.elim
  | _ :: _ :: _ :: _ :: _, _, q => exact q.elim
end
section
variable {m : AHp} {q : AK} {a : Addr}
def isTupD : PyData → Bool
  | .tuple _ => true
  | _ => false
def isStrD : PyData → Bool
  | .str _ => true
  | _ => false
def isIntD : PyData → Bool
  | .int _ => true
  | .bool _ => true
  | _ => false
def isBoolD : PyData → Bool
  | .bool _ => true
  | _ => false
theorem nty (b : String) (h : (tyNames.contains b = true ∧ b ≠ "NoneType") := by decide) : (tyNames.contains b = true ∧ b ≠ "NoneType") = True := eq_true h
theorem ty_lst {xs : List AV} (e : m a = some (.lst xs)) : tyA (.ref a) m = some "list" := by simp only [tyA, e]
theorem ty_dic {kvs : List (Key × AV)} (e : m a = some (.dK kvs)) : tyA (.ref a) m = some "dict" := by simp only [tyA, e]
theorem isiT_d {d : PyData} {x : AV} (h : OdAt m d x) : bIsi [x, .ty "tuple"] m q = q (.bl (isTupD d)) m := by
  cases h with
  | lst e _ => exact isi_of (ty_lst e) (nty _)
  | dic e _ => exact isi_of (ty_dic e) (nty _)
  | non => exact isi_of (a := "NoneType") rfl (nty _)
  | bl b => exact isi_of (a := "bool") rfl (nty _)
  | int b => exact isi_of (a := "int") rfl (nty _)
  | str b => exact isi_of (a := "str") rfl (nty _)
  | tup _ => exact isi_of (a := "tuple") rfl (nty _)
theorem isiS_d {d : PyData} {x : AV} (h : OdAt m d x) : bIsi [x, .ty "str"] m q = q (.bl (isStrD d)) m := by
  cases h with
  | lst e _ => exact isi_of (ty_lst e) (nty _)
  | dic e _ => exact isi_of (ty_dic e) (nty _)
  | non => exact isi_of (a := "NoneType") rfl (nty _)
  | bl b => exact isi_of (a := "bool") rfl (nty _)
  | int b => exact isi_of (a := "int") rfl (nty _)
  | str b => exact isi_of (a := "str") rfl (nty _)
  | tup _ => exact isi_of (a := "tuple") rfl (nty _)
theorem isiI_d {d : PyData} {x : AV} (h : OdAt m d x) : bIsi [x, .ty "int"] m q = q (.bl (isIntD d)) m := by
  cases h with
  | lst e _ => exact isi_of (ty_lst e) (nty _)
  | dic e _ => exact isi_of (ty_dic e) (nty _)
  | non => exact isi_of (a := "NoneType") rfl (nty _)
  | bl b => exact isi_of (a := "bool") rfl (nty _)
  | int b => exact isi_of (a := "int") rfl (nty _)
  | str b => exact isi_of (a := "str") rfl (nty _)
  | tup _ => exact isi_of (a := "tuple") rfl (nty _)
theorem isiB_d {d : PyData} {x : AV} (h : OdAt m d x) : bIsi [x, .ty "bool"] m q = q (.bl (isBoolD d)) m := by
  cases h with
  | lst e _ => exact isi_of (ty_lst e) (nty _)
  | dic e _ => exact isi_of (ty_dic e) (nty _)
  | non => exact isi_of (a := "NoneType") rfl (nty _)
  | bl b => exact isi_of (a := "bool") rfl (nty _)
  | int b => exact isi_of (a := "int") rfl (nty _)
  | str b => exact isi_of (a := "str") rfl (nty _)
  | tup _ => exact isi_of (a := "tuple") rfl (nty _)
end
end Ab

namespace Ab
open PySem PySem.Spec PyProof.Rows L2
def isWordD : PyData → Bool
  | .str z => isWord z
  | _ => false
def isMarkD : PyData → Bool
  | .str z => decide (z = "?")
  | _ => false
def isWholeD (d : PyData) : Bool := isIntD d && !isBoolD d
def isNatD : PyData → Bool
  | .int i => decide (0 ≤ i)
  | _ => false
def isTermD : PyData → Bool
  | .int _ => true
  | .str z => isWord z
  | .tuple [] => true
  | .tuple [a, b] => if isMarkD a then isNatD b else isTermD a && isTermD b
  | _ => false
mutual
def cntD : PyData → Nat
  | .tuple xs => cntsD xs + 1
  | .list _ => 1
  | .dict _ => 1
  | .none => 1
  | .bool _ => 1
  | .int _ => 1
  | .str _ => 1
def cntsD : List PyData → Nat
  | [] => 0
  | x :: xs => cntD x + cntsD xs
end
theorem cntD_pos (d : PyData) : 1 ≤ cntD d := by
  cases d <;> simp only [cntD] <;> omega
mutual
theorem cntD_le : ∀ d : PyData, cntD d ≤ d.weight + 1
  | .tuple xs => by
    have := cntsD_le xs
    simp only [cntD, PyData.weight]
    omega
  | .list _ => by simp only [cntD]; omega
  | .dict _ => by simp only [cntD]; omega
  | .none => by simp only [cntD]; omega
  | .bool _ => by simp only [cntD]; omega
  | .int _ => by simp only [cntD]; omega
  | .str _ => by simp only [cntD]; omega
theorem cntsD_le : ∀ xs : List PyData, cntsD xs ≤ PyData.weightAll xs
  | [] => by simp only [cntsD]; omega
  | x :: xs => by
    have := cntD_le x
    have := cntsD_le xs
    simp only [cntsD, PyData.weightAll]
    omega
end
mutual
def fineD : PyData → Bool
  | .none => true
  | .bool _ => true
  | .int i => decide (i.natAbs < 10 ^ 40)
  | .str z => z.cps.toList.all fun c => decide (c < 128)
  | .list xs => finesD xs
  | .tuple xs => finesD xs
  | .dict kvs => fineKD kvs
def finesD : List PyData → Bool
  | [] => true
  | x :: xs => fineD x && finesD xs
def fineKD : List (PyData × PyData) → Bool
  | [] => true
  | (k, v) :: r => fineD k && fineD v && fineKD r
end
mutual
theorem fineD_show : ∀ d : PyData, fineD d = true → d.showable = true
  | .none, _ => by simp only [PyData.showable]
  | .bool _, _ => by simp only [PyData.showable]
  | .int i, h => by
    simp only [fineD, decide_eq_true_eq] at h
    simp only [PyData.showable, decide_eq_true_eq]
    exact log40 h (by decide)
  | .str _, _ => by simp only [PyData.showable]
  | .list xs, h => by simp only [fineD] at h; simp only [PyData.showable]; exact finesD_show xs h
  | .tuple xs, h => by simp only [fineD] at h; simp only [PyData.showable]; exact finesD_show xs h
  | .dict kvs, h => by simp only [fineD] at h; simp only [PyData.showable]; exact fineKD_show kvs h
theorem finesD_show : ∀ xs : List PyData, finesD xs = true → PyData.showableAll xs = true
  | [], _ => by simp only [PyData.showableAll]
  | x :: xs, h => by
    simp only [finesD, Bool.and_eq_true] at h
    simp only [PyData.showableAll, Bool.and_eq_true]
    exact ⟨fineD_show x h.1, finesD_show xs h.2⟩
theorem fineKD_show : ∀ kvs : List (PyData × PyData), fineKD kvs = true → PyData.showableKv kvs = true
  | [], _ => by simp only [PyData.showableKv]
  | (k, v) :: r, h => by
    simp only [fineKD, Bool.and_eq_true] at h
    simp only [PyData.showableKv, Bool.and_eq_true]
    exact ⟨⟨fineD_show k h.1.1, fineD_show v h.1.2⟩, fineKD_show r h.2⟩
end
mutual
theorem fineD_short : ∀ d : PyData, fineD d = true → d.leavesShort 41 = true
  | .none, _ => by simp only [PyData.leavesShort]
  | .bool _, _ => by simp only [PyData.leavesShort]
  | .int i, h => by
    simp only [fineD, decide_eq_true_eq] at h
    simp only [PyData.leavesShort, PyData.shown, decide_eq_true_eq]
    have e := int_text_length_le10 (k := 40) (by decide) h
    exact decide_eq_true (Nat.le_trans (Nat.le_of_eq (PySem.ofString_length _)) e)
  | .str x, h => by
    simp only [fineD, List.all_eq_true] at h
    simp only [PyData.leavesShort, List.all_eq_true]
    intro c hc
    have := of_decide_eq_true (h c hc)
    exact decide_eq_true (Nat.lt_trans this (by decide))
  | .list xs, h => by simp only [fineD] at h; simp only [PyData.leavesShort]; exact finesD_short xs h
  | .tuple xs, h => by simp only [fineD] at h; simp only [PyData.leavesShort]; exact finesD_short xs h
  | .dict kvs, h => by simp only [fineD] at h; simp only [PyData.leavesShort]; exact fineKD_short kvs h
theorem finesD_short : ∀ xs : List PyData, finesD xs = true → PyData.leavesShortAll 41 xs = true
  | [], _ => by simp only [PyData.leavesShortAll]
  | x :: xs, h => by
    simp only [finesD, Bool.and_eq_true] at h
    simp only [PyData.leavesShortAll, Bool.and_eq_true]
    exact ⟨fineD_short x h.1, finesD_short xs h.2⟩
theorem fineKD_short : ∀ kvs : List (PyData × PyData), fineKD kvs = true → PyData.leavesShortKv 41 kvs = true
  | [], _ => by simp only [PyData.leavesShortKv]
  | (k, v) :: r, h => by
    simp only [fineKD, Bool.and_eq_true] at h
    simp only [PyData.leavesShortKv, Bool.and_eq_true]
    exact ⟨⟨fineD_short k h.1.1, fineD_short v h.1.2⟩, fineKD_short r h.2⟩
end
def Fit (d : PyData) : Prop := fineD d = true ∧ d.weight ≤ 390000 ∧ d.depth ≤ 150
theorem Fit.shown {d : PyData} (h : Fit d) : d.shown.length ≤ sizeLine := by
  have e := PyData.shown_le 41 (by decide) d (fineD_short d h.1)
  have := h.2.1
  exact (show _ ≤ 16777216 by omega)
section
variable {m : AHp} {q : AK}
theorem repr_od {x : AV} {d : PyData} (h : OdAt m d x) (f : Fit d) (k : q (.str d.shown) m) : bReprO [x] m q := ⟨d, h, fineD_show d f.1, f.2.2, f.shown, k⟩
theorem reprO_bl {b : Bool} (k : q (.str (PyData.bool b).shown) m) : bReprO [.bl b] m q := repr_od (.bl b) ⟨by simp only [fineD], by simp only [PyData.weight]; omega, by simp only [PyData.depth]; omega⟩ k
end
section
variable {m : AHp}
theorem OdsAt.length {ds : List PyData} {xs : List AV} (h : OdsAt m ds xs) : ds.length = xs.length := by
  induction ds generalizing xs with
  | nil => cases h; rfl
  | cons d ds ih =>
    cases h with
    | cons h r => rw [List.length_cons, List.length_cons, ih r]
theorem OdsAt.app {ds es : List PyData} {xs ys : List AV} (h : OdsAt m ds xs) (h2 : OdsAt m es ys) : OdsAt m (ds ++ es) (xs ++ ys) := by
  induction ds generalizing xs with
  | nil => cases h; exact h2
  | cons d ds ih =>
    cases h with
    | cons h r => exact .cons h (ih r)
theorem OdsAt.take {ds : List PyData} {xs : List AV} (h : OdsAt m ds xs) (n : Nat) : OdsAt m (ds.take n) (xs.take n) := by
  induction ds generalizing xs n with
  | nil => cases h; rw [List.take_nil, List.take_nil]; exact .nil
  | cons d ds ih =>
    cases h with
    | cons h r =>
      cases n with
      | zero => exact .nil
      | succ n => exact .cons h (ih r n)
theorem OdsAt.reverse {ds : List PyData} {xs : List AV} (h : OdsAt m ds xs) : OdsAt m ds.reverse xs.reverse := by
  induction ds generalizing xs with
  | nil => cases h; exact .nil
  | cons d ds ih =>
    cases h with
    | cons h r =>
      rw [List.reverse_cons, List.reverse_cons]
      exact (ih r).app (.cons h .nil)
theorem OdsAt.mem {ds : List PyData} {xs : List AV} (h : OdsAt m ds xs) {x : AV} (hx : x ∈ xs) : ∃ d ∈ ds, OdAt m d x := by
  induction ds generalizing xs with
  | nil => cases h; cases hx
  | cons d ds ih =>
    cases h with
    | cons h r =>
      rcases List.mem_cons.mp hx with rfl | hx
      · exact ⟨d, List.mem_cons_self, h⟩
      · obtain ⟨e, he, z⟩ := ih r hx
        exact ⟨e, List.mem_cons_of_mem _ he, z⟩
theorem OdsAt.concat {ds : List PyData} {d : PyData} {xs : List AV} (h : OdsAt m (ds ++ [d]) xs) : ∃ ys y, xs = ys ++ [y] ∧ OdsAt m ds ys ∧ OdAt m d y := by
  induction ds generalizing xs with
  | nil =>
    cases h with
    | cons h r => cases r; exact ⟨[], _, rfl, .nil, h⟩
  | cons e ds ih =>
    cases h with
    | cons h r =>
      obtain ⟨ys, y, rfl, h2, h3⟩ := ih r
      exact ⟨_ :: ys, y, rfl, .cons h h2, h3⟩
end
theorem finesD_iff : ∀ {ds : List PyData}, finesD ds = true ↔ ∀ d ∈ ds, fineD d = true
  | [] => by simp [finesD]
  | d :: ds => by simp [finesD, finesD_iff (ds := ds)]
theorem weightAll_app : ∀ as bs : List PyData, PyData.weightAll (as ++ bs) = PyData.weightAll as + PyData.weightAll bs
  | [], bs => by simp only [List.nil_append, PyData.weightAll]; omega
  | a :: as, bs => by
    have := weightAll_app as bs
    simp only [List.cons_append, PyData.weightAll]
    omega
theorem weightAll_rev : ∀ as : List PyData, PyData.weightAll as.reverse = PyData.weightAll as
  | [] => rfl
  | a :: as => by
    have := weightAll_rev as
    simp only [List.reverse_cons, weightAll_app, PyData.weightAll]
    omega
theorem weightAll_take : ∀ (as : List PyData) (n : Nat), PyData.weightAll (as.take n) ≤ PyData.weightAll as
  | [], n => by rw [List.take_nil]; exact Nat.le_refl _
  | a :: as, 0 => by rw [List.take_zero]; simp only [PyData.weightAll]; omega
  | a :: as, n + 1 => by
    have := weightAll_take as n
    simp only [List.take_succ_cons, PyData.weightAll]
    omega
theorem depthAll_iff : ∀ {ds : List PyData} {n : Nat}, PyData.depthAll ds ≤ n ↔ ∀ d ∈ ds, d.depth ≤ n
  | [], n => by simp [PyData.depthAll]
  | d :: ds, n => by
    simp only [PyData.depthAll, List.mem_cons, forall_eq_or_imp, ← depthAll_iff (ds := ds) (n := n)]
    omega
theorem cntsD_app : ∀ as bs : List PyData, cntsD (as ++ bs) = cntsD as + cntsD bs
  | [], bs => by simp only [List.nil_append, cntsD]; omega
  | a :: as, bs => by
    have := cntsD_app as bs
    simp only [List.cons_append, cntsD]
    omega
theorem cntsD_len : ∀ as : List PyData, as.length ≤ cntsD as
  | [] => Nat.le_refl _
  | a :: as => by
    have := cntsD_len as
    have := cntD_pos a
    simp only [List.length_cons, cntsD]
    omega
mutual
theorem od_pure {m : AHp} : ∀ x : AV, pureV x = true → OdAt m (toD x) x
  | .non, _ => by simp only [toD]; exact .non
  | .bl b, _ => by simp only [toD]; exact .bl b
  | .int i, _ => by simp only [toD]; exact .int i
  | .str z, _ => by simp only [toD]; exact .str z
  | .tup xs, h => by simp only [pureV] at h; simp only [toD]; exact .tup (ods_pure xs h)
  | .ref _, h => by simp [pureV] at h
  | .ty _, h => by simp [pureV] at h
  | .scr _, h => by simp [pureV] at h
  | .raw _, h => by simp [pureV] at h
theorem ods_pure {m : AHp} : ∀ xs : List AV, pureVs xs = true → OdsAt m (toDs xs) xs
  | [], _ => by simp only [toDs]; exact .nil
  | x :: xs, h => by
    simp only [pureVs, Bool.and_eq_true] at h
    simp only [toDs]
    exact .cons (od_pure x h.1) (ods_pure xs h.2)
end
theorem word_ascii {w : Str} (h : Word w) : (w.cps.toList.all fun c => decide (c < 128)) = true := by
  rw [List.all_eq_true]
  intro c hc
  have := h.2.2 c hc
  exact decide_eq_true (by omega)
theorem Trm.fineD {A U : Int → Prop} (ha : ∀ i, A i → Small i) (hu : ∀ i, U i → Small i) : ∀ {t : Trm}, t.ok A U → Ab.fineD (toD t.av) = true
  | .num i, h => by simp only [Trm.av, toD, Ab.fineD, decide_eq_true_eq]; exact ha i h
  | .wd w, h => by simp only [Trm.av, toD, Ab.fineD]; exact word_ascii h
  | .nil, _ => by simp only [Trm.av, toD, toDs, Ab.fineD, finesD]
  | .unk n, h => by
    have e : (("?" : Str).cps.toList.all fun c => decide (c < 128)) = true := by decide +kernel
    simp only [Trm.av, toD, toDs, Ab.fineD, finesD, Bool.and_true, Bool.and_eq_true, decide_eq_true_eq]
    exact ⟨e, hu n h⟩
  | .pair a b, h => by
    simp only [Trm.av, toD, toDs, Ab.fineD, finesD, Bool.and_true, Bool.and_eq_true]
    exact ⟨Trm.fineD ha hu h.1, Trm.fineD ha hu h.2⟩
theorem Trm.mark {A U : Int → Prop} {t : Trm} (h : t.ok A U) : isMarkD (toD t.av) = false := by
  cases t with
  | wd w => simp only [Trm.av, toD, isMarkD]; exact decide_eq_false (Word.ne h)
  | _ => simp only [Trm.av, toD, isMarkD]
theorem Trm.termD {A U : Int → Prop} (hu : ∀ i, U i → 0 ≤ i) : ∀ {t : Trm}, t.ok A U → isTermD (toD t.av) = true
  | .num i, h => by simp only [Trm.av, toD, isTermD]
  | .wd w, h => by simp only [Trm.av, toD, isTermD]; exact (isWord_iff w).mpr h
  | .nil, _ => by simp only [Trm.av, toD, toDs, isTermD]
  | .unk n, h => by
    have e : isMarkD (.str "?") = true := by simp only [isMarkD, decide_true]
    simp only [Trm.av, toD, toDs, isTermD]
    rw [e, if_pos rfl]
    simp only [isNatD]
    exact decide_eq_true (hu n h)
  | .pair a b, h => by
    simp only [Trm.av, toD, toDs, isTermD]
    rw [Trm.mark h.1, if_neg Bool.false_ne_true, Trm.termD hu h.1, Trm.termD hu h.2]
    rfl
end Ab

namespace Ab
open PySem PySem.Spec PyProof.Rows L2 PySem.NumText
def tx (l : List Nat) : Str := ⟨l.toArray⟩
theorem tx_cps (l : List Nat) : (tx l).cps.toList = l := by unfold tx; simp
theorem tx_len (l : List Nat) : (tx l).length = l.length := by unfold tx; rfl
theorem tx_of (z : Str) : tx z.cps.toList = z := by cases z; simp [tx]
theorem tx_app (a b : List Nat) : tx a ++ tx b = tx (a ++ b) := by
  rw [← tx_of (tx a ++ tx b), cps_add, tx_cps, tx_cps]
theorem tx_inj {a b : List Nat} : tx a = tx b ↔ a = b := ⟨fun h => by rw [← tx_cps a, ← tx_cps b, h], fun h => by rw [h]⟩
theorem cutS_tx (l : List Nat) (lo hi : Option Int) : cutS (tx l) lo hi = tx (cutG l lo hi) := by
  rw [← tx_of (cutS (tx l) lo hi), cutS_G, tx_cps]
theorem tx_nil : Str.empty = tx [] := rfl
theorem eq_txx {a b : List Nat} : decide (tx a = tx b) = decide (a = b) := decide_eq_decide.mpr tx_inj
def decT (i : Int) : List Nat := (Str.ofString (toString i)).cps.toList
theorem dec_tx (i : Int) : Str.ofString (toString i) = tx (decT i) := (tx_of _).symm
theorem dec_nat (n : Nat) : decT (n : Int) = (Nat.toDigits 10 n).map Char.toNat := PySem.W.KIN.signs_num n
theorem dec_neg {n : Nat} (h : 0 < n) : decT (-(n : Int)) = 45 :: decT (n : Int) := by
  obtain ⟨k, rfl⟩ : ∃ k, n = k + 1 := ⟨n - 1, by omega⟩
  show (Str.ofString (Int.repr (Int.negSucc k))).cps.toList = 45 :: (Str.ofString (toString ((k + 1 : Nat) : Int))).cps.toList
  rw [signs_ofString, signs_ofString]
  show (("-" : String) ++ Nat.repr (k + 1)).toList.map Char.toNat = 45 :: (Nat.repr (k + 1)).toList.map Char.toNat
  rw [String.toList_append]
  rfl
theorem dec_digits (n : Nat) : AllDigits (decT (n : Int)) := by
  intro c hc
  rw [dec_nat] at hc
  obtain ⟨ch, hch, e⟩ := List.mem_map.mp hc
  have r := PyProof.Rows.digit_range (Nat.isDigit_of_mem_toDigits (by decide) (by decide) hch)
  rw [← e]
  exact r
theorem dec_ne (n : Nat) : decT (n : Int) ≠ [] := by
  rw [dec_nat]
  intro e
  have h := PySem.toDigits_len_ge 10 n
  rw [List.map_eq_nil_iff.mp e] at h
  exact absurd h (by decide)
theorem dec_val (n : Nat) : digitsVal (decT (n : Int)) = n := by
  rw [dec_nat]
  exact PySem.W.KIN.val_back n
theorem dec_reads {n : Nat} (h : (decT (n : Int)).length ≤ 640) : PySem.intText? (tx (decT (n : Int))) = some (n : Int) := by
  have e := intText_digits (x := tx (decT (n : Int))) (by rw [tx_cps]; exact dec_digits n) (by rw [tx_cps]; exact dec_ne n) (by rw [tx_len]; omega)
  rw [tx_cps, dec_val] at e
  exact e
theorem digit_small : ∀ n : Nat, n < 10 → 0 < n → (Nat.digitChar n).toNat ≠ 48 := by decide
theorem dec_head (n : Nat) : n ≠ 0 → (decT (n : Int)).head? ≠ some 48 := by
  rw [dec_nat]
  induction n using Nat.strongRecOn with
  | _ n ih =>
    intro h0
    by_cases h : n < 10
    · rw [Nat.toDigits_of_lt_base h]
      intro e
      exact digit_small n h (by omega) (by simpa using e)
    · have t : Nat.toDigits 10 (n / 10) ++ Nat.toDigits 10 (n % 10) = Nat.toDigits 10 (10 * (n / 10) + n % 10) := Nat.toDigits_append_toDigits (by decide) (by omega) (Nat.mod_lt _ (by decide))
      rw [Nat.div_add_mod] at t
      rw [← t, List.map_append]
      have i := ih (n / 10) (by omega) (by omega)
      have ne : (Nat.toDigits 10 (n / 10)).map Char.toNat ≠ [] := by
        rw [← dec_nat]
        exact dec_ne _
      cases hd : (Nat.toDigits 10 (n / 10)).map Char.toNat with
      | nil => exact absurd hd ne
      | cons c r => rw [hd] at i; simpa using i
def isCnt (cs : List Nat) : Bool := !cs.isEmpty && (cs.all (fun c => decide (48 ≤ c ∧ c ≤ 57)) && (decide (cs = [48]) || !decide (cs.head? = some 48)))
theorem dec_cnt (n : Nat) : isCnt (decT (n : Int)) = true := by
  unfold isCnt
  have h1 : (decT (n : Int)).isEmpty = false := by
    cases e : decT (n : Int) with
    | nil => exact absurd e (dec_ne n)
    | cons _ _ => rfl
  have h2 : (decT (n : Int)).all (fun c => decide (48 ≤ c ∧ c ≤ 57)) = true := List.all_eq_true.mpr fun c hc => decide_eq_true (dec_digits n c hc)
  rw [h1, h2]
  by_cases h0 : n = 0
  · subst h0
    decide +kernel
  · rw [decide_eq_false (dec_head n h0)]
    simp
theorem dec_len {i : Int} (h : Small i) : (decT i).length ≤ 41 := by
  have e := int_text_length_le10 (k := 40) (by decide) h
  have : (decT i).length = (Str.ofString (toString i)).length := (str_len _).symm
  rw [this, PySem.ofString_length]
  exact e
theorem dec_sign {i : Int} (h : i < 0) : decT i = 45 :: decT (-i) ∧ -i = ((-i).toNat : Int) := by
  have e : -i = ((-i).toNat : Int) := by omega
  refine ⟨?_, e⟩
  have := dec_neg (n := (-i).toNat) (by omega)
  rw [← e] at this
  rw [← this]
  congr 1
  omega
theorem dec_free (i : Int) : ∀ c ∈ decT i, c ≠ 40 ∧ c ≠ 41 ∧ c ≠ 32 ∧ c ≠ 63 ∧ c ≠ 46 := by
  intro c hc
  by_cases h : i < 0
  · obtain ⟨e1, e2⟩ := dec_sign h
    rw [e1, e2] at hc
    rcases List.mem_cons.mp hc with rfl | hc
    · decide
    · have := dec_digits _ c hc
      omega
  · have e : i = (i.toNat : Int) := by omega
    rw [e] at hc
    have := dec_digits _ c hc
    omega
theorem dec_ne' (i : Int) : decT i ≠ [] := by
  by_cases h : i < 0
  · rw [(dec_sign h).1]; simp
  · have e : i = (i.toNat : Int) := by omega
    rw [e]
    exact dec_ne _
def Trm.tipT : Trm → List Nat
  | .num i => decT i
  | .wd w => w.cps.toList
  | .unk n => 63 :: decT n
  | .nil => [40, 41]
  | .pair _ _ => []
def Trm.sh : Trm → Bool → List Nat
  | .pair a b, c => (if c then 32 else 40) :: (a.sh false ++ b.sh true)
  | .nil, c => if c then [41] else [40, 41]
  | .num i, c => if c then 32 :: 46 :: 32 :: (decT i ++ [41]) else decT i
  | .wd w, c => if c then 32 :: 46 :: 32 :: (w.cps.toList ++ [41]) else w.cps.toList
  | .unk n, c => if c then 32 :: 46 :: 32 :: ((63 :: decT n) ++ [41]) else 63 :: decT n
def Trm.bare : Trm → Bool
  | .pair _ _ => false
  | .nil => false
  | _ => true
def Trm.OK (t : Trm) : Prop := t.ok Small fun n => 0 ≤ n ∧ Small n
theorem Trm.sh_bare {t : Trm} (h : t.bare = true) : t.sh true = 32 :: 46 :: 32 :: (t.sh false ++ [41]) := by
  cases t <;> first | rfl | cases h
theorem Trm.bare_free {t : Trm} (h : t.bare = true) (ok : t.OK) : t.sh false ≠ [] ∧ ∀ c ∈ t.sh false, c ≠ 40 ∧ c ≠ 41 ∧ c ≠ 32 ∧ c ≠ 46 := by
  cases t with
  | num i => exact ⟨dec_ne' i, fun c hc => by have := dec_free i c hc; exact ⟨this.1, this.2.1, this.2.2.1, this.2.2.2.2⟩⟩
  | wd w =>
    have ok : Word w := ok
    refine ⟨fun e => ?_, fun c hc => ?_⟩
    · have h1 := ok.1
      rw [str_len, show w.cps.toList = [] from e] at h1
      simp at h1
    · have := ok.2.2 c hc
      omega
  | unk n =>
    refine ⟨List.cons_ne_nil _ _, fun c hc => ?_⟩
    rcases List.mem_cons.mp hc with rfl | hc
    · decide
    · have := dec_free n c hc
      exact ⟨this.1, this.2.1, this.2.2.1, this.2.2.2.2⟩
  | nil => cases h
  | pair a b => cases h
theorem Trm.sh_head {t : Trm} (ok : t.OK) : ∃ c r, t.sh false = c :: r ∧ c ≠ 46 ∧ c ≠ 32 ∧ c ≠ 41 ∧ (t.bare = true → c ≠ 40) := by
  cases hb : t.bare with
  | true =>
    obtain ⟨h1, h2⟩ := Trm.bare_free hb ok
    cases e : t.sh false with
    | nil => exact absurd e h1
    | cons c r =>
      have := h2 c (by rw [e]; exact List.mem_cons_self)
      exact ⟨c, r, rfl, this.2.2.2, this.2.2.1, this.2.1, fun _ => this.1⟩
  | false =>
    cases t with
    | pair a b => exact ⟨40, _, rfl, by decide, by decide, by decide, fun h => by cases h⟩
    | nil => exact ⟨40, _, rfl, by decide, by decide, by decide, fun h => by cases h⟩
    | _ => cases hb
theorem Trm.sh_len {t : Trm} (ok : t.OK) (c : Bool) : (t.sh c).length ≤ 50 * t.size := by
  induction t generalizing c with
  | num i => have := dec_len (show Small i from ok); cases c <;> simp only [Trm.sh, Trm.size] <;> simp <;> omega
  | wd w =>
    have h : Word w := ok
    have h1 := h.2.1
    rw [str_len] at h1
    cases c <;> simp only [Trm.sh, Trm.size] <;> simp <;> simp at h1 <;> omega
  | nil => cases c <;> simp [Trm.sh, Trm.size]
  | unk n => have := dec_len (show Small n from ok.2); cases c <;> simp only [Trm.sh, Trm.size] <;> simp <;> omega
  | pair a b iha ihb =>
    have h1 := iha ok.1 false
    have h2 := ihb ok.2 true
    simp only [Trm.sh, Trm.size, List.length_cons, List.length_append]
    omega
theorem join_tx (s : List Nat) (ws : List (List Nat)) : Txt.join (tx s) (ws.map tx) = tx (TL.joinL s ws) := SX.join_S s ws
theorem joinL_snoc (s : List Nat) : ∀ (ws : List (List Nat)) (w : List Nat), ws ≠ [] → TL.joinL s (ws ++ [w]) = TL.joinL s ws ++ (s ++ w)
  | [], _, h => absurd rfl h
  | [a], w, _ => rfl
  | a :: b :: r, w, _ => by
    have e := joinL_snoc s (b :: r) w (by simp)
    show a ++ (s ++ TL.joinL s ((b :: r) ++ [w])) = (a ++ (s ++ TL.joinL s (b :: r))) ++ (s ++ w)
    rw [e]
    simp
def Spine (ws : List (List Nat)) (t t0 : Trm) : Prop := (ws = [] ∧ t = t0 ∧ ∃ a b, t0 = .pair a b) ∨ (ws ≠ [] ∧ 40 :: (TL.joinL [32] ws ++ t.sh true) = t0.sh false)
theorem Spine.step {ws : List (List Nat)} {a b t0 : Trm} (h : Spine ws (.pair a b) t0) : Spine (ws ++ [a.sh false]) b t0 := by
  rcases h with ⟨rfl, rfl, _⟩ | ⟨h1, h2⟩
  · exact .inr ⟨by simp, rfl⟩
  · refine .inr ⟨by simp, ?_⟩
    rw [joinL_snoc _ _ _ h1, ← h2]
    simp [Trm.sh]
theorem Spine.nil {ws : List (List Nat)} {t0 : Trm} (h : Spine ws .nil t0) : 40 :: (TL.joinL [32] ws ++ [41]) = t0.sh false := by
  rcases h with ⟨rfl, e, a, b, e2⟩ | ⟨h1, h2⟩
  · rw [← e] at e2; cases e2
  · exact h2
theorem Spine.bare {ws : List (List Nat)} {t t0 : Trm} (h : Spine ws t t0) (hb : t.bare = true) : 40 :: (TL.joinL [32] (ws ++ [[46], t.sh false]) ++ [41]) = t0.sh false := by
  rcases h with ⟨rfl, e, a, b, e2⟩ | ⟨h1, h2⟩
  · rw [e, e2] at hb; cases hb
  · have e : ws ++ [[46], t.sh false] = (ws ++ [[46]]) ++ [t.sh false] := by simp
    rw [e, joinL_snoc _ _ _ (by simp), joinL_snoc _ _ _ h1, ← h2, Trm.sh_bare hb]
    simp
structure Fr where
  ad : Addr
  hs : List Trm
  en : Bool
  b : Trm
def Fr.rem (f : Fr) : List Nat := if f.en then [41] else f.b.sh true
def remT : List Fr → List Nat
  | [] => []
  | f :: fs => f.rem ++ remT fs
def listed (hs : List Trm) (r : Trm) : Trm := hs.foldr .pair r
theorem listed_snoc (hs : List Trm) (a r : Trm) : listed (hs ++ [a]) r = listed hs (.pair a r) := by unfold listed; simp
def plug (t : Trm) : List Fr → Trm
  | [] => t
  | f :: fs => plug (if f.en then listed f.hs t else listed (f.hs ++ [t]) f.b) fs
def Trm.oks (hs : List Trm) : Prop := ∀ t ∈ hs, t.OK
def Rest : List Fr → Prop
  | [] => True
  | f :: fs => f.en = false ∧ Trm.oks f.hs ∧ f.b.OK ∧ Rest fs
def Vld (t : Trm) : List Fr → Prop
  | [] => t.OK
  | f :: fs => t.OK ∧ Trm.oks f.hs ∧ (f.en = true → t.bare = true) ∧ (f.en = false → f.b.OK) ∧ Rest fs
theorem listed_OK {hs : List Trm} {r : Trm} (h : Trm.oks hs) (hr : r.OK) : (listed hs r).OK := by
  unfold listed
  induction hs with
  | nil => exact hr
  | cons a hs ih => exact ⟨h a List.mem_cons_self, ih fun x hx => h x (List.mem_cons_of_mem _ hx)⟩
theorem oks_snoc {hs : List Trm} {a : Trm} (h : Trm.oks hs) (ha : a.OK) : Trm.oks (hs ++ [a]) := fun x hx => by
  rcases List.mem_append.mp hx with hx | hx
  · exact h x hx
  · rw [List.mem_singleton.mp hx]; exact ha
theorem Rest.vld {t : Trm} {fs : List Fr} (h : Rest fs) (ok : t.OK) : Vld t fs := by
  cases fs with
  | nil => exact ok
  | cons f fs => exact ⟨ok, h.2.1, fun e => (by rw [h.1] at e; cases e), fun _ => h.2.2.1, h.2.2.2⟩
theorem Vld.ok {t : Trm} {fs : List Fr} (h : Vld t fs) : t.OK := by
  cases fs with
  | nil => exact h
  | cons f fs => exact h.1
theorem Vld.down {a b : Trm} {fs : List Fr} (h : Vld (.pair a b) fs) (p : Addr) : Vld a (⟨p, [], false, b⟩ :: fs) ∧ plug a (⟨p, [], false, b⟩ :: fs) = plug (.pair a b) fs ∧
    (Trm.pair a b).sh false ++ remT fs = 40 :: (a.sh false ++ remT (⟨p, [], false, b⟩ :: fs)) := by
  have ok := h.ok
  refine ⟨⟨ok.1, fun _ z => (by cases z), fun e => (by cases e), fun _ => ok.2, ?_⟩, rfl, ?_⟩
  · cases fs with
    | nil => trivial
    | cons f fs =>
      have e : f.en = false := by
        cases e : f.en with
        | false => rfl
        | true => have := h.2.2.1 e; cases this
      exact ⟨e, h.2.1, h.2.2.2.1 e, h.2.2.2.2⟩
  · simp [Trm.sh, remT, Fr.rem]
theorem Trm.bare_or {t : Trm} : t.bare = true ∨ t = .nil ∨ ∃ a b, t = .pair a b := by
  cases t with
  | pair a b => exact .inr (.inr ⟨a, b, rfl⟩)
  | nil => exact .inr (.inl rfl)
  | _ => exact .inl rfl
end Ab

namespace K01
open PySem PySem.Spec PyProof.Rows L2 Ab
def topS (i : Nat) : Stmt := PySem.Challenge.pw_fairsearch_k01_what_is_a_term.main.body.getD i (.Pass ⟨0, 0, 0, 0⟩)
abbrev s_is_word : Stmt := topS 4
abbrev n_is_word : List Str := ["thing", "sign"]
abbrev p_is_word : List Str := ["thing"]
theorem sc_is_word : FnScope n_is_word p_is_word (defScope s_is_word) := ⟨rfl, rfl, rfl, by decide +kernel, rfl, by decide +kernel, by decide +kernel⟩
abbrev s_is_whole : Stmt := topS 5
abbrev n_is_whole : List Str := ["thing"]
abbrev p_is_whole : List Str := ["thing"]
theorem sc_is_whole : FnScope n_is_whole p_is_whole (defScope s_is_whole) := ⟨rfl, rfl, rfl, by decide +kernel, rfl, by decide +kernel, by decide +kernel⟩
abbrev s_is_marked : Stmt := topS 6
abbrev n_is_marked : List Str := ["thing"]
abbrev p_is_marked : List Str := ["thing"]
theorem sc_is_marked : FnScope n_is_marked p_is_marked (defScope s_is_marked) := ⟨rfl, rfl, rfl, by decide +kernel, rfl, by decide +kernel, by decide +kernel⟩
abbrev s_is_term : Stmt := topS 7
abbrev n_is_term : List Str := ["thing", "waiting", "here", "head", "rest"]
abbrev p_is_term : List Str := ["thing"]
theorem sc_is_term : FnScope n_is_term p_is_term (defScope s_is_term) := ⟨rfl, rfl, rfl, by decide +kernel, rfl, by decide +kernel, by decide +kernel⟩
abbrev s__law_deck : Stmt := topS 9
abbrev n__law_deck : List Str := ["_law_script", "_law_cells"]
abbrev p__law_deck : List Str := ["_law_script"]
theorem sc__law_deck : FnScope n__law_deck p__law_deck (defScope s__law_deck) := ⟨rfl, rfl, rfl, by decide +kernel, rfl, by decide +kernel, by decide +kernel⟩
abbrev s__law_draw : Stmt := topS 10
abbrev n__law_draw : List Str := ["_law_deck_here", "_law_many", "_law_cells", "_law_cell", "_law_number_here"]
abbrev p__law_draw : List Str := ["_law_deck_here", "_law_many"]
theorem sc__law_draw : FnScope n__law_draw p__law_draw (defScope s__law_draw) := ⟨rfl, rfl, rfl, by decide +kernel, rfl, by decide +kernel, by decide +kernel⟩
abbrev s__law_names : Stmt := topS 11
abbrev n__law_names : List Str := ["_law_deck_here", "_law_many", "_law_letters", "_law_kinds", "_law_mode", "_law_turn", "_law_base", "_law_size", "_law_at", "_law_k"]
abbrev p__law_names : List Str := ["_law_deck_here", "_law_many"]
theorem sc__law_names : FnScope n__law_names p__law_names (defScope s__law_names) := ⟨rfl, rfl, rfl, by decide +kernel, rfl, by decide +kernel, by decide +kernel⟩
abbrev s__law_number : Stmt := topS 12
abbrev n__law_number : List Str := ["_law_deck_here", "_law_far"]
abbrev p__law_number : List Str := ["_law_deck_here"]
theorem sc__law_number : FnScope n__law_number p__law_number (defScope s__law_number) := ⟨rfl, rfl, rfl, by decide +kernel, rfl, by decide +kernel, by decide +kernel⟩
abbrev s__law_tip : Stmt := topS 13
abbrev n__law_tip : List Str := ["_law_deck_here", "_law_words", "_law_unknowns", "_law_kind"]
abbrev p__law_tip : List Str := ["_law_deck_here", "_law_words", "_law_unknowns"]
theorem sc__law_tip : FnScope n__law_tip p__law_tip (defScope s__law_tip) := ⟨rfl, rfl, rfl, by decide +kernel, rfl, by decide +kernel, by decide +kernel⟩
abbrev s__law_term : Stmt := topS 14
abbrev n__law_term : List Str := ["_law_deck_here", "_law_words", "_law_unknowns", "_law_deep", "_law_left", "_law_kind", "_law_head"]
abbrev p__law_term : List Str := ["_law_deck_here", "_law_words", "_law_unknowns", "_law_deep", "_law_left"]
theorem sc__law_term : FnScope n__law_term p__law_term (defScope s__law_term) := ⟨rfl, rfl, rfl, by decide +kernel, rfl, by decide +kernel, by decide +kernel⟩
abbrev s__law_any_term : Stmt := topS 15
abbrev n__law_any_term : List Str := ["_law_deck_here", "_law_words", "_law_unknowns", "_law_kind", "_law_term_here", "_law_k", "_law_tip_here"]
abbrev p__law_any_term : List Str := ["_law_deck_here", "_law_words", "_law_unknowns"]
theorem sc__law_any_term : FnScope n__law_any_term p__law_any_term (defScope s__law_any_term) := ⟨rfl, rfl, rfl, by decide +kernel, rfl, by decide +kernel, by decide +kernel⟩
abbrev s__law_is_word : Stmt := topS 16
abbrev n__law_is_word : List Str := ["_law_thing", "_law_sign"]
abbrev p__law_is_word : List Str := ["_law_thing"]
theorem sc__law_is_word : FnScope n__law_is_word p__law_is_word (defScope s__law_is_word) := ⟨rfl, rfl, rfl, by decide +kernel, rfl, by decide +kernel, by decide +kernel⟩
abbrev s__law_whole : Stmt := topS 17
abbrev n__law_whole : List Str := ["_law_thing"]
abbrev p__law_whole : List Str := ["_law_thing"]
theorem sc__law_whole : FnScope n__law_whole p__law_whole (defScope s__law_whole) := ⟨rfl, rfl, rfl, by decide +kernel, rfl, by decide +kernel, by decide +kernel⟩
abbrev s__law_is_term : Stmt := topS 18
abbrev n__law_is_term : List Str := ["_law_thing"]
abbrev p__law_is_term : List Str := ["_law_thing"]
theorem sc__law_is_term : FnScope n__law_is_term p__law_is_term (defScope s__law_is_term) := ⟨rfl, rfl, rfl, by decide +kernel, rfl, by decide +kernel, by decide +kernel⟩
abbrev s__law_odd : Stmt := topS 19
abbrev n__law_odd : List Str := ["_law_deck_here", "_law_thing", "_law_some"]
abbrev p__law_odd : List Str := ["_law_deck_here", "_law_thing"]
theorem sc__law_odd : FnScope n__law_odd p__law_odd (defScope s__law_odd) := ⟨rfl, rfl, rfl, by decide +kernel, rfl, by decide +kernel, by decide +kernel⟩
abbrev s__law_bent : Stmt := topS 20
abbrev n__law_bent : List Str := ["_law_deck_here", "_law_thing", "_law_at", "_law_kind"]
abbrev p__law_bent : List Str := ["_law_deck_here", "_law_thing"]
theorem sc__law_bent : FnScope n__law_bent p__law_bent (defScope s__law_bent) := ⟨rfl, rfl, rfl, by decide +kernel, rfl, by decide +kernel, by decide +kernel⟩
abbrev s__law_right : Stmt := topS 21
abbrev n__law_right : List Str := ["_law_thing", "_law_kept"]
abbrev p__law_right : List Str := ["_law_thing"]
theorem sc__law_right : FnScope n__law_right p__law_right (defScope s__law_right) := ⟨rfl, rfl, rfl, by decide +kernel, rfl, by decide +kernel, by decide +kernel⟩
abbrev s_law : Stmt := topS 22
abbrev n_law : List Str := ["_law_script", "_law_deck_here", "_law_words", "_law_unknowns", "_law_deep", "_law_turn", "_law_odd_here", "_law_term_here", "_law_k", "_law_twice", "_law_thing", "_law_tree", "_law_row", "_law_heads"]
abbrev p_law : List Str := ["_law_script"]
theorem sc_law : FnScope n_law p_law (defScope s_law) := ⟨rfl, rfl, rfl, by decide +kernel, rfl, by decide +kernel, by decide +kernel⟩
structure Txt (K : PySem.W.Frag) (mg : Str → Option Value) : Prop where
  b_all : mg "all" = none
  b_bool : mg "bool" = none
  b_int : mg "int" = none
  b_isinstance : mg "isinstance" = none
  b_len : mg "len" = none
  b_list : mg "list" = none
  b_range : mg "range" = none
  b_repr : mg "repr" = none
  b_str : mg "str" = none
  b_sum : mg "sum" = none
  b_tuple : mg "tuple" = none
  c_LETTERS : ∃ t, mg "LETTERS" = some (.str "abcdefghijklmnopqrstuvwxyz" t)
  c_MOST_LETTERS : ∃ t, mg "MOST_LETTERS" = some (.int 8 t)
  c_UNKNOWN : ∃ t, mg "UNKNOWN" = some (.str "?" t)
  t_is_word : Top K mg "is_word" s_is_word p_is_word
  t_is_whole : Top K mg "is_whole" s_is_whole p_is_whole
  t_is_marked : Top K mg "is_marked" s_is_marked p_is_marked
  t_is_term : Top K mg "is_term" s_is_term p_is_term
  t__law_deck : Top K mg "_law_deck" s__law_deck p__law_deck
  t__law_draw : Top K mg "_law_draw" s__law_draw p__law_draw
  t__law_names : Top K mg "_law_names" s__law_names p__law_names
  t__law_number : Top K mg "_law_number" s__law_number p__law_number
  t__law_tip : Top K mg "_law_tip" s__law_tip p__law_tip
  t__law_term : Top K mg "_law_term" s__law_term p__law_term
  t__law_any_term : Top K mg "_law_any_term" s__law_any_term p__law_any_term
  t__law_is_word : Top K mg "_law_is_word" s__law_is_word p__law_is_word
  t__law_whole : Top K mg "_law_whole" s__law_whole p__law_whole
  t__law_is_term : Top K mg "_law_is_term" s__law_is_term p__law_is_term
  t__law_odd : Top K mg "_law_odd" s__law_odd p__law_odd
  t__law_bent : Top K mg "_law_bent" s__law_bent p__law_bent
  t__law_right : Top K mg "_law_right" s__law_right p__law_right
  t_law : Top K mg "law" s_law p_law
structure TxtB (K : PySem.W.Frag) (mg : Str → Option Value) (base : Heap) : Prop extends Txt K mg where
  mods : Mods base
def t_is_word (K : PySem.W.Frag) : ATS :=
  (aSeq K (aIfS (aOr (aNot (aTest (aCB bIsi (aCons (aVar 0) (aCons (aC (.ty "str")) aNil))))) (aNot (aTest (aChain bLe bLe (aC (.int 1)) (aCB bLen (aCons (aVar 0) aNil)) (aC (.int 8))))))
        (aRet (aC (.bl false)))
        aNext)
    (aRet (aCB bAll (aCons (aLc K (wStr (aVar 0)) (aName 1) aYes (aOp bIn (aVar 1) (aC (.str "abcdefghijklmnopqrstuvwxyz"))) [1]) aNil))))
def t_is_whole (K : PySem.W.Frag) : ATS :=
  (aRet (aAndV (aCB bIsi (aCons (aVar 0) (aCons (aC (.ty "int")) aNil))) (aNotV (aCB bIsi (aCons (aVar 0) (aCons (aC (.ty "bool")) aNil))))))
def t_is_marked (K : PySem.W.Frag) : ATS :=
  (aRet (aAndV (aCB bIsi (aCons (aOp bIx (aVar 0) (aC (.int 0))) (aCons (aC (.ty "str")) aNil))) (aOp bEq (aOp bIx (aVar 0) (aC (.int 0))) (aC (.str "?")))))
def t_is_term (K : PySem.W.Frag) (sp_is_marked : ASp) (sp_is_whole : ASp) (sp_is_word : ASp) : ATS :=
  (aSeq K (aAsg (aLst (aCons (aVar 0) aNil)) (aName 1))
    (aSeq K (aWhile K (aTest (aNilEq not (aVar 1)))
        (aSeq K (aAsg (aBM tyL bPop (aVar 1) aNil) (aName 2))
    (aIfS (aAnd (aTest (aCB bIsi (aCons (aVar 2) (aCons (aC (.ty "tuple")) aNil)))) (aTest (aOp (bEq0 not) (aVar 2) (aTup aNil))))
        (aSeq K (aIfS (aTest (aOp bNe (aCB bLen (aCons (aVar 2) aNil)) (aC (.int 2))))
        (aRet (aC (.bl false)))
        aNext)
    (aSeq K (aAsg (aVar 2) (aUnp 2 (aGCons (aName 3) (aGCons (aName 4) aGNil))))
    (aIfS (aNot (aTest (aCall sp_is_marked [] (aCons (aVar 2) aNil))))
        (aDrop (aBM tyL bExtend (aVar 1) (aCons (aLst (aCons (aVar 4) (aCons (aVar 3) aNil))) aNil)))
        (aIfS (aOr (aNot (aTest (aCall sp_is_whole [] (aCons (aVar 4) aNil)))) (aTest (aOp bLt (aVar 4) (aC (.int 0)))))
        (aRet (aC (.bl false)))
        aNext))))
        (aIfS (aAnd (aNot (aTest (aCB bIsi (aCons (aVar 2) (aCons (aC (.ty "tuple")) aNil))))) (aAnd (aNot (aTest (aCall sp_is_whole [] (aCons (aVar 2) aNil)))) (aNot (aTest (aCall sp_is_word [] (aCons (aVar 2) aNil))))))
        (aRet (aC (.bl false)))
        aNext))))
    (aRet (aC (.bl true)))))
def t__law_deck (K : PySem.W.Frag) : ATS :=
  (aSeq K (aAsg (aCB bList (aCons (aSl bSl (aVar 0) aNoPart (aPart (aC (.int 63)))) aNil)) (aName 1))
    (aRet (aLst (aCons (aVar 1) (aCons (aOp bAdd (aC (.int 130043)) (aOp bMod (aCB bSum (aCons (aVar 1) aNil)) (aC (.int 2147483579)))) (aCons (aC (.int 0)) aNil))))))
def t__law_draw (K : PySem.W.Frag) : ATS :=
  (aSeq K (aAsg (aOp bAdd (aOp bIx (aVar 0) (aC (.int 2))) (aC (.int 1))) (aSub (aVar 0) (aC (.int 2)) bSet))
    (aSeq K (aAsg (aOp bIx (aVar 0) (aC (.int 0))) (aName 2))
    (aSeq K (aAsg (aOp bIx (aVar 0) (aC (.int 1))) (aName 3))
    (aSeq K (aIfS (aTest (aNilEq not (aVar 2)))
        (aSeq K (aAsg (aBM tyL bPop (aVar 2) (aCons (aC (.int 0)) aNil)) (aName 3))
    (aSeq K (aIfS (aTest (aOp bGe (aVar 3) (aOp bPow (aC (.int 10)) (aC (.int 18)))))
        (aSeq K (aDrop (aBM tyL bInsert (aVar 2) (aCons (aC (.int 0)) (aCons (aOp bFdiv (aVar 3) (aVar 1)) aNil))))
    (aRet (aOp bMod (aVar 3) (aVar 1))))
        aNext)
    (aAsg (aOp bAdd (aVar 3) (aOp bIx (aVar 0) (aC (.int 1)))) (aName 3))))
        aNext)
    (aSeq K (aAsg (aOp bMod (aOp bAdd (aOp bAdd (aOp bMul (aOp bMod (aVar 3) (aC (.int 2147483629))) (aC (.int 48271))) (aOp bMul (aC (.int 6997)) (aOp bIx (aVar 0) (aC (.int 2))))) (aC (.int 17))) (aC (.int 2147483647))) (aName 4))
    (aSeq K (aAsg (aOp bMod (aOp bAdd (aOp bAdd (aOp bMul (aVar 4) (aVar 4)) (aOp bMul (aC (.int 69621)) (aVar 4))) (aOp bIx (aVar 0) (aC (.int 2)))) (aC (.int 2147483587))) (aName 4))
    (aSeq K (aAsg (aVar 4) (aSub (aVar 0) (aC (.int 1)) bSet))
    (aRet (aOp bMod (aOp bFdiv (aOp bMod (aOp bMul (aVar 4) (aOp bAdd (aVar 4) (aC (.int 40692)))) (aC (.int 2147483563))) (aC (.int 64))) (aVar 1))))))))))
def t__law_names (K : PySem.W.Frag) (sp__law_draw : ASp) : ATS :=
  (aSeq K (aAsg (aC (.str "abcdefghijklmnopqrstuvwxyz")) (aName 2))
    (aSeq K (aAsg (aLst (aCons (aC (.str "same")) (aCons (aC (.str "both")) (aCons (aC (.str "call")) (aCons (aC (.str "either")) (aCons (aC (.str "fresh")) (aCons (aC (.str "unlike")) (aCons (aC (.str "number")) (aCons (aC (.str "word")) (aCons (aC (.str "absent")) (aCons (aC (.str "x")) (aCons (aC (.str "put")) (aCons (aC (.str "go")) aNil))))))))))))) (aName 3))
    (aSeq K (aAsg (aCall sp__law_draw [] (aCons (aVar 0) (aCons (aC (.int 4)) aNil))) (aName 4))
    (aSeq K (aAsg (aCall sp__law_draw [] (aCons (aVar 0) (aCons (aC (.int 26)) aNil))) (aName 5))
    (aSeq K (aAsg (aJoin (aC (.str "")) (aLc K (wRange1 (aC (.int 8))) (aName 9) aYes (aOp bIx (aVar 2) (aCall sp__law_draw [] (aCons (aVar 0) (aCons (aC (.int 26)) aNil)))) [9])) (aName 6))
    (aSeq K (aAsg (aOp bAdd (aC (.int 1)) (aCall sp__law_draw [] (aCons (aVar 0) (aCons (aC (.int 8)) aNil)))) (aName 7))
    (aSeq K (aAsg (aCall sp__law_draw [] (aCons (aVar 0) (aCons (aVar 7) aNil))) (aName 8))
    (aSeq K (aIfS (aTest (aOp bEq (aVar 4) (aC (.int 0))))
        (aRet (aLc K (wRange1 (aVar 1)) (aName 9) aYes (aOp bIx (aVar 3) (aOp bMod (aOp bAdd (aVar 5) (aOp bMul (aC (.int 5)) (aVar 9))) (aC (.int 12)))) [9]))
        aNext)
    (aSeq K (aIfS (aAnd (aTest (aOp bEq (aVar 4) (aC (.int 1)))) (aTest (aOp bLt (aVar 1) (aC (.int 9)))))
        (aRet (aLc K (wRange1 (aVar 1)) (aName 9) aYes (aSl bSl (aVar 6) aNoPart (aPart (aOp bAdd (aC (.int 1)) (aVar 9)))) [9]))
        aNext)
    (aRet (aLc K (wRange1 (aVar 1)) (aName 9) aYes (aOp bAdd (aOp bAdd (aSl bSl (aVar 6) aNoPart (aPart (aVar 8))) (aOp bIx (aVar 2) (aOp bMod (aOp bAdd (aVar 5) (aOp bMul (aC (.int 7)) (aVar 9))) (aC (.int 26))))) (aSl bSl (aVar 6) (aPart (aOp bAdd (aVar 8) (aC (.int 1)))) (aPart (aVar 7)))) [9])))))))))))
def t__law_number (K : PySem.W.Frag) (sp__law_draw : ASp) : ATS :=
  (aSeq K (aAsg (aOp bAdd (aOp bMul (aCall sp__law_draw [] (aCons (aVar 0) (aCons (aOp bPow (aC (.int 10)) (aC (.int 6))) aNil))) (aOp bPow (aC (.int 10)) (aC (.int 6)))) (aCall sp__law_draw [] (aCons (aVar 0) (aCons (aOp bPow (aC (.int 10)) (aC (.int 6))) aNil)))) (aName 1))
    (aRet (aOp bIx (aLst (aCons (aC (.int 0)) (aCons (aC (.int 1)) (aCons (aC (.int 2)) (aCons (aC (.int 9)) (aCons (aC (.int 10)) (aCons (aC (.int 99)) (aCons (aC (.int 100)) (aCons (aUn bNeg (aC (.int 1))) (aCons (aUn bNeg (aC (.int 10))) (aCons (aOp bPow (aC (.int 10)) (aC (.int 12))) (aCons (aVar 1) (aCons (aOp bSubB (aC (.int 0)) (aVar 1)) aNil))))))))))))) (aCall sp__law_draw [] (aCons (aVar 0) (aCons (aC (.int 12)) aNil))))))
def t__law_tip (K : PySem.W.Frag) (sp__law_draw : ASp) (sp__law_number : ASp) : ATS :=
  (aSeq K (aAsg (aCall sp__law_draw [] (aCons (aVar 0) (aCons (aC (.int 8)) aNil))) (aName 3))
    (aSeq K (aIfS (aAnd (aTest (aOp bLt (aVar 3) (aC (.int 3)))) (aTest (aNilEq not (aVar 2))))
        (aRet (aTup (aCons (aC (.str "?")) (aCons (aOp bIx (aVar 2) (aCall sp__law_draw [] (aCons (aVar 0) (aCons (aCB bLen (aCons (aVar 2) aNil)) aNil)))) aNil))))
        aNext)
    (aSeq K (aIfS (aTest (aOp bEq (aVar 3) (aC (.int 3))))
        (aRet (aTup aNil))
        aNext)
    (aSeq K (aIfS (aTest (aOp bLt (aVar 3) (aC (.int 6))))
        (aRet (aOp bIx (aVar 1) (aCall sp__law_draw [] (aCons (aVar 0) (aCons (aCB bLen (aCons (aVar 1) aNil)) aNil)))))
        aNext)
    (aRet (aCall sp__law_number [] (aCons (aVar 0) aNil)))))))
def t__law_term (K : PySem.W.Frag) (sp__law_draw : ASp) (sp__law_term : ASp) (sp__law_tip : ASp) : ATS :=
  (aSeq K (aAsg (aCall sp__law_draw [] (aCons (aVar 0) (aCons (aC (.int 5)) aNil))) (aName 5))
    (aSeq K (aIfS (aOr (aTest (aOp bLt (aVar 3) (aC (.int 2)))) (aOr (aTest (aOp bLt (aOp bIx (aVar 4) (aC (.int 0))) (aC (.int 2)))) (aTest (aOp bEq (aVar 5) (aC (.int 0))))))
        (aRet (aCall sp__law_tip [] (aCons (aVar 0) (aCons (aVar 1) (aCons (aVar 2) aNil)))))
        aNext)
    (aSeq K (aAsg (aOp bSub (aOp bIx (aVar 4) (aC (.int 0))) (aC (.int 2))) (aSub (aVar 4) (aC (.int 0)) bSet))
    (aSeq K (aAsg (aCall sp__law_term [] (aCons (aVar 0) (aCons (aVar 1) (aCons (aVar 2) (aCons (aOp bIx (aLst (aCons (aOp bSub (aVar 3) (aC (.int 1))) (aCons (aC (.int 1)) aNil))) (aCB bToInt (aCons (aOp bEq (aVar 5) (aC (.int 1))) aNil))) (aCons (aVar 4) aNil)))))) (aName 6))
    (aRet (aTup (aCons (aVar 6) (aCons (aCall sp__law_term [] (aCons (aVar 0) (aCons (aVar 1) (aCons (aVar 2) (aCons (aOp bSub (aVar 3) (aC (.int 1))) (aCons (aVar 4) aNil)))))) aNil))))))))
def t__law_any_term (K : PySem.W.Frag) (sp__law_draw : ASp) (sp__law_term : ASp) (sp__law_tip : ASp) : ATS :=
  (aSeq K (aAsg (aCall sp__law_draw [] (aCons (aVar 0) (aCons (aC (.int 8)) aNil))) (aName 3))
    (aSeq K (aIfS (aTest (aOp bEq (aVar 3) (aC (.int 5))))
        (aRet (aCall sp__law_term [] (aCons (aVar 0) (aCons (aVar 1) (aCons (aVar 2) (aCons (aC (.int 29)) (aCons (aLst (aCons (aC (.int 116)) aNil)) aNil)))))))
        aNext)
    (aSeq K (aIfS (aTest (aOp bGt (aVar 3) (aC (.int 5))))
        (aSeq K (aAsg (aCall sp__law_tip [] (aCons (aVar 0) (aCons (aVar 1) (aCons (aVar 2) aNil)))) (aName 4))
    (aSeq K (aFor K (wRange1 (aOp bAdd (aC (.int 1)) (aCall sp__law_draw [] (aCons (aVar 0) (aCons (aC (.int 28)) aNil))))) (aName 5)
        (aSeq K (aAsg (aCall sp__law_tip [] (aCons (aVar 0) (aCons (aVar 1) (aCons (aVar 2) aNil)))) (aName 6))
    (aAsg (aOp bIx (aLst (aCons (aTup (aCons (aVar 6) (aCons (aVar 4) aNil))) (aCons (aTup (aCons (aVar 4) (aCons (aVar 6) aNil))) aNil))) (aOp bSub (aVar 3) (aC (.int 6)))) (aName 4))))
    (aRet (aVar 4))))
        aNext)
    (aRet (aCall sp__law_term [] (aCons (aVar 0) (aCons (aVar 1) (aCons (aVar 2) (aCons (aOp bIx (aLst (aCons (aC (.int 2)) (aCons (aC (.int 3)) (aCons (aC (.int 5)) aNil)))) (aCall sp__law_draw [] (aCons (aVar 0) (aCons (aC (.int 3)) aNil)))) (aCons (aLst (aCons (aOp bIx (aLst (aCons (aC (.int 2)) (aCons (aC (.int 6)) (aCons (aC (.int 12)) aNil)))) (aCall sp__law_draw [] (aCons (aVar 0) (aCons (aC (.int 3)) aNil)))) aNil)) aNil))))))))))
def t__law_is_word (K : PySem.W.Frag) : ATS :=
  (aSeq K (aIfS (aOr (aNot (aTest (aCB bIsi (aCons (aVar 0) (aCons (aC (.ty "str")) aNil))))) (aNot (aTest (aChain bLe bLe (aC (.int 1)) (aCB bLen (aCons (aVar 0) aNil)) (aC (.int 8))))))
        (aRet (aC (.bl false)))
        aNext)
    (aRet (aNilEq id (aLc K (wStr (aVar 0)) (aName 1) (aTest (aOp bNotIn (aVar 1) (aC (.str "abcdefghijklmnopqrstuvwxyz")))) (aVar 1) [1]))))
def t__law_whole (K : PySem.W.Frag) : ATS :=
  (aRet (aAndV (aCB bIsi (aCons (aVar 0) (aCons (aC (.ty "int")) aNil))) (aNotV (aCB bIsi (aCons (aVar 0) (aCons (aC (.ty "bool")) aNil))))))
def t__law_is_term (K : PySem.W.Frag) (sp__law_is_term : ASp) (sp__law_is_word : ASp) (sp__law_whole : ASp) : ATS :=
  (aSeq K (aIfS (aNot (aTest (aCB bIsi (aCons (aVar 0) (aCons (aC (.ty "tuple")) aNil)))))
        (aRet (aOrV (aCall sp__law_whole [] (aCons (aVar 0) aNil)) (aCall sp__law_is_word [] (aCons (aVar 0) aNil))))
        aNext)
    (aSeq K (aIfS (aTest (aOp (bEq0 id) (aVar 0) (aTup aNil)))
        (aRet (aC (.bl true)))
        aNext)
    (aSeq K (aIfS (aTest (aOp bNe (aCB bLen (aCons (aVar 0) aNil)) (aC (.int 2))))
        (aRet (aC (.bl false)))
        aNext)
    (aSeq K (aIfS (aAnd (aTest (aCB bIsi (aCons (aOp bIx (aVar 0) (aC (.int 0))) (aCons (aC (.ty "str")) aNil)))) (aTest (aOp bEq (aOp bIx (aVar 0) (aC (.int 0))) (aC (.str "?")))))
        (aRet (aAndV (aCall sp__law_whole [] (aCons (aOp bIx (aVar 0) (aC (.int 1))) aNil)) (aOp bGe (aOp bIx (aVar 0) (aC (.int 1))) (aC (.int 0)))))
        aNext)
    (aRet (aAndV (aCall sp__law_is_term [] (aCons (aOp bIx (aVar 0) (aC (.int 0))) aNil)) (aCall sp__law_is_term [] (aCons (aOp bIx (aVar 0) (aC (.int 1))) aNil))))))))
def t__law_odd (K : PySem.W.Frag) (sp__law_draw : ASp) : ATS :=
  (aSeq K (aAsg (aLst (aCons (aC .non) (aCons (aC (.bl true)) (aCons (aC (.bl false)) (aCons (aC (.int 0)) (aCons (aUn bNeg (aC (.int 1))) (aCons (aOp bPow (aC (.int 10)) (aC (.int 39))) (aCons (aC (.str "")) (aCons (aC (.str "A")) (aCons (aC (.str "abcdefghi")) (aCons (aC (.str "a b")) (aCons (aC (.str "?")) (aCons (aC (.str "a\n")) (aCons (aTup aNil) (aCons (aTup (aCons (aC (.int 1)) aNil)) (aCons (aTup (aCons (aC (.int 1)) (aCons (aC (.int 2)) (aCons (aC (.int 3)) aNil)))) (aCons (aLst aNil) (aCons aDNew aNil)))))))))))))))))) (aName 2))
    (aSeq K (aAsg (aOp bAdd (aVar 2) (aLst (aCons (aTup (aCons (aC (.str "?")) aNil)) (aCons (aTup (aCons (aC (.str "?")) (aCons (aUn bNeg (aC (.int 1))) aNil))) (aCons (aTup (aCons (aC (.str "?")) (aCons (aC (.bl true)) aNil))) (aCons (aTup (aCons (aC (.str "?")) (aCons (aC (.str "a")) aNil))) (aCons (aTup (aCons (aC (.str "?")) (aCons (aC (.int 1)) (aCons (aC (.int 2)) aNil)))) (aCons (aTup (aCons (aC (.str "?")) (aCons (aTup aNil) aNil))) (aCons (aTup (aCons (aC (.str "?")) (aCons (aC .non) aNil))) (aCons (aTup (aCons (aC .non) (aCons (aC (.int 1)) aNil))) aNil)))))))))) (aName 2))
    (aSeq K (aAsg (aOp bAdd (aVar 2) (aLst (aCons (aLst (aCons (aVar 1) aNil)) (aCons (aTup (aCons (aVar 1) aNil)) (aCons (aDispF (aC (.int 0)) (aVar 1)) (aCons (aTup (aCons (aC (.str "?")) (aCons (aVar 1) aNil))) (aCons (aTup (aCons (aVar 1) (aCons (aC (.str "?")) aNil))) (aCons (aTup (aCons (aC (.str "?")) (aCons (aC (.int 999)) aNil))) (aCons (aTup (aCons (aC (.str "??")) (aCons (aC (.int 1)) aNil))) (aCons (aTup (aCons (aC (.int 1)) (aCons (aLst (aCons (aC (.int 2)) aNil)) aNil))) aNil)))))))))) (aName 2))
    (aRet (aOp bIx (aVar 2) (aCall sp__law_draw [] (aCons (aVar 0) (aCons (aCB bLen (aCons (aVar 2) aNil)) aNil))))))))
def t__law_bent (K : PySem.W.Frag) (sp__law_bent : ASp) (sp__law_draw : ASp) (sp__law_odd : ASp) : ATS :=
  (aSeq K (aIfS (aAnd (aTest (aCB bIsi (aCons (aVar 1) (aCons (aC (.ty "tuple")) aNil)))) (aAnd (aTest (aOp bEq (aCB bLen (aCons (aVar 1) aNil)) (aC (.int 2)))) (aTest (aOp bGt (aCall sp__law_draw [] (aCons (aVar 0) (aCons (aC (.int 5)) aNil))) (aC (.int 0))))))
        (aSeq K (aAsg (aCall sp__law_draw [] (aCons (aVar 0) (aCons (aC (.int 2)) aNil))) (aName 2))
    (aRet (aOp bAdd (aOp bAdd (aSl bSl (aVar 1) aNoPart (aPart (aVar 2))) (aTup (aCons (aCall sp__law_bent [] (aCons (aVar 0) (aCons (aOp bIx (aVar 1) (aVar 2)) aNil))) aNil))) (aSl bSl (aVar 1) (aPart (aOp bAdd (aVar 2) (aC (.int 1)))) aNoPart))))
        aNext)
    (aSeq K (aAsg (aCall sp__law_draw [] (aCons (aVar 0) (aCons (aC (.int 8)) aNil))) (aName 3))
    (aSeq K (aIfS (aAnd (aTest (aCB bIsi (aCons (aVar 1) (aCons (aC (.ty "tuple")) aNil)))) (aTest (aOp bLt (aVar 3) (aC (.int 4)))))
        (aRet (aOp bIx (aLst (aCons (aCB bList (aCons (aVar 1) aNil)) (aCons (aOp bAdd (aVar 1) (aTup (aCons (aC (.int 0)) aNil))) (aCons (aSl bSl (aVar 1) aNoPart (aPart (aC (.int 1)))) (aCons (aRev (aVar 1)) aNil))))) (aVar 3)))
        aNext)
    (aSeq K (aIfS (aAnd (aTest (aCB bIsi (aCons (aVar 1) (aCons (aC (.ty "str")) aNil)))) (aTest (aOp bLt (aVar 3) (aC (.int 4)))))
        (aRet (aOp bIx (aLst (aCons (aOp bAdd (aVar 1) (aC (.str "a"))) (aCons (aUpper (aVar 1)) (aCons (aSl bSl (aVar 1) (aPart (aC (.int 1))) aNoPart) (aCons (aOp bAdd (aVar 1) (aC (.str " "))) aNil))))) (aVar 3)))
        aNext)
    (aSeq K (aIfS (aAnd (aTest (aCB bIsi (aCons (aVar 1) (aCons (aC (.ty "int")) aNil)))) (aTest (aOp bLt (aVar 3) (aC (.int 3)))))
        (aRet (aOp bIx (aLst (aCons (aOp bEq (aVar 1) (aC (.int 1))) (aCons (aOp bSubB (aC (.int 0)) (aVar 1)) (aCons (aCB bTextB (aCons (aVar 1) aNil)) aNil)))) (aVar 3)))
        aNext)
    (aRet (aCall sp__law_odd [] (aCons (aVar 0) (aCons (aVar 1) aNil)))))))))
def t__law_right (K : PySem.W.Frag) (sp__law_is_term : ASp) (sp__law_is_word : ASp) (sp_is_term : ASp) (sp_is_word : ASp) : ATS :=
  (aSeq K (aAsg (aCB bReprO (aCons (aVar 0) aNil)) (aName 1))
    (aSeq K (aIfS (aOr (aTest (aOp bNe (aCB bReprO (aCons (aCall sp_is_term [] (aCons (aVar 0) aNil)) aNil)) (aCB bReprO (aCons (aCall sp__law_is_term [] (aCons (aVar 0) aNil)) aNil)))) (aTest (aOp bNe (aCB bReprO (aCons (aCall sp_is_word [] (aCons (aVar 0) aNil)) aNil)) (aCB bReprO (aCons (aCall sp__law_is_word [] (aCons (aVar 0) aNil)) aNil)))))
        (aRet (aC (.bl false)))
        aNext)
    (aRet (aOp bEq (aCB bReprO (aCons (aVar 0) aNil)) (aVar 1)))))
def t_law (K : PySem.W.Frag) (sp__law_any_term : ASp) (sp__law_bent : ASp) (sp__law_deck : ASp) (sp__law_draw : ASp) (sp__law_names : ASp) (sp__law_right : ASp) (sp_is_term : ASp) (sp_is_word : ASp) : ATS :=
  (aSeq K (aAsg (aCall sp__law_deck [] (aCons (aVar 0) aNil)) (aName 1))
    (aSeq K (aAsg (aCall sp__law_names [] (aCons (aVar 1) (aCons (aC (.int 4)) aNil))) (aName 2))
    (aSeq K (aAsg (aOp bIx (aLst (aCons (aLst (aCons (aC (.int 0)) (aCons (aC (.int 1)) (aCons (aC (.int 2)) (aCons (aC (.int 5)) aNil))))) (aCons (aLst (aCons (aC (.int 0)) (aCons (aC (.int 10)) (aCons (aC (.int 99)) (aCons (aC (.int 999)) aNil))))) (aCons (aLst aNil) aNil)))) (aCall sp__law_draw [] (aCons (aVar 1) (aCons (aC (.int 3)) aNil)))) (aName 3))
    (aSeq K (aAsg (aC (.int 5)) (aName 4))
    (aSeq K (aFor K (wRange1 (aC (.int 55))) (aName 5)
        (aAsg (aOp bIx (aLst (aCons (aTup (aCons (aVar 4) (aCons (aTup aNil) aNil))) (aCons (aLst (aCons (aVar 4) aNil)) (aCons (aTup (aCons (aC (.int 1)) (aCons (aVar 4) aNil))) aNil)))) (aOp bMod (aVar 5) (aC (.int 3)))) (aName 4)))
    (aSeq K (aAsg (aLst (aCons (aC .non) (aCons (aC (.bl true)) (aCons (aC (.bl false)) (aCons (aC (.int 0)) (aCons (aUn bNeg (aC (.int 1))) (aCons (aOp bPow (aC (.int 10)) (aC (.int 39))) (aCons (aC (.str "")) (aCons (aC (.str "a")) (aCons (aC (.str "A")) (aCons (aC (.str "abcdefgh")) (aCons (aC (.str "abcdefghi")) (aCons (aC (.str "a1")) (aCons (aC (.str " ")) (aCons (aC (.str "?")) (aCons (aTup aNil) (aCons (aLst aNil) (aCons aDNew aNil)))))))))))))))))) (aName 6))
    (aSeq K (aAsg (aOp bAdd (aVar 6) (aLst (aCons (aVar 4) (aCons (aTup (aCons (aC (.int 1)) (aCons (aC (.int 2)) aNil))) (aCons (aTup (aCons (aC (.int 1)) (aCons (aC (.int 2)) (aCons (aC (.int 3)) aNil)))) (aCons (aTup (aCons (aC (.str "?")) (aCons (aC (.int 0)) aNil))) (aCons (aTup (aCons (aC (.str "?")) (aCons (aUn bNeg (aC (.int 1))) aNil))) (aCons (aTup (aCons (aC (.str "?")) (aCons (aC (.bl false)) aNil))) (aCons (aTup (aCons (aC (.str "?")) (aCons (aC (.str "a")) aNil))) (aCons (aTup (aCons (aC (.str "a")) (aCons (aC (.str "?")) aNil))) (aCons (aDispF (aC (.int 1)) (aC (.int 2))) aNil))))))))))) (aName 6))
    (aSeq K (aDrop (aBM tyL bAppend (aVar 6) (aCons (aTup (aCons (aTup (aCons (aC (.str "?")) (aCons (aC (.int 1)) aNil))) (aCons (aTup (aCons (aC (.str "?")) aNil)) aNil))) aNil)))
    (aSeq K (aFor K (wRange1 (aC (.int 6))) (aName 5)
        (aSeq K (aAsg (aCall sp__law_any_term [] (aCons (aVar 1) (aCons (aVar 2) (aCons (aVar 3) aNil)))) (aName 7))
    (aSeq K (aIfS (aOr (aTest (aOp bIsNot (aCall sp_is_term [] (aCons (aVar 7) aNil)) (aC (.bl true)))) (aTest (aOp bIsNot (aCall sp_is_word [] (aCons (aOp bIx (aVar 2) (aOp bMod (aVar 5) (aC (.int 4)))) aNil)) (aC (.bl true)))))
        (aRet (aC (.bl false)))
        aNext)
    (aSeq K (aFor K (wRange1 (aC (.int 8))) (aName 8)
        (aSeq K (aAsg (aCall sp__law_draw [] (aCons (aVar 1) (aCons (aC (.int 2)) aNil))) (aName 9))
    (aSeq K (aAsg (aCall sp__law_bent [] (aCons (aVar 1) (aCons (aVar 7) aNil))) (aName 10))
    (aSeq K (aIfS (aTest (aOp bEq (aVar 9) (aC (.int 1))))
        (aAsg (aCall sp__law_bent [] (aCons (aVar 1) (aCons (aVar 10) aNil))) (aName 10))
        aNext)
    (aIfS (aOr (aNot (aTest (aCall sp__law_right [] (aCons (aVar 10) aNil)))) (aNot (aTest (aCall sp__law_right [] (aCons (aCall sp__law_bent [] (aCons (aVar 1) (aCons (aOp bIx (aVar 2) (aOp bMod (aVar 8) (aC (.int 4)))) aNil))) aNil)))))
        (aRet (aC (.bl false)))
        aNext)))))
    (aIfS (aNot (aTest (aCall sp__law_right [] (aCons (aVar 7) aNil))))
        (aRet (aC (.bl false)))
        aNext)))))
    (aSeq K (aPar3 11 12 13 (aCons (aOp bIx (aVar 2) (aC (.int 0))) (aCons (aTup aNil) (aCons (aC (.int 1)) aNil))))
    (aSeq K (aFor K (wRange1 (aC (.int 58))) (aName 5)
        (aSeq K (aPar 12 13 (aCons (aTup (aCons (aVar 5) (aCons (aVar 12) aNil))) (aCons (aTup (aCons (aVar 13) (aCons (aTup aNil) aNil))) aNil)))
    (aIfS (aTest (aOp bLt (aVar 5) (aC (.int 11))))
        (aAsg (aTup (aCons (aVar 11) (aCons (aVar 11) aNil))) (aName 11))
        aNext)))
    (aSeq K (aAsg (aOp bAdd (aVar 6) (aLst (aCons (aVar 11) (aCons (aVar 12) (aCons (aVar 13) (aCons (aTup (aCons (aVar 11) (aCons (aLst (aCons (aC (.int 1)) aNil)) aNil))) (aCons (aTup (aCons (aVar 11) (aCons (aC (.str "A")) aNil))) (aCons (aTup (aCons (aC (.int 1)) (aCons (aVar 12) aNil))) (aCons (aTup (aCons (aVar 13) (aCons (aTup (aCons (aC (.str "?")) (aCons (aUn bNeg (aC (.int 1))) aNil))) aNil))) (aCons (aTup (aCons (aVar 13) (aCons (aTup (aCons (aC (.str "?")) (aCons (aC (.int 5)) aNil))) aNil))) aNil)))))))))) (aName 6))
    (aRet (aNilEq id (aLc K (wAny (aVar 6)) (aName 10) (aNot (aTest (aCall sp__law_right [] (aCons (aVar 10) aNil)))) (aVar 10) [10])))))))))))))))
section
variable {P : Program} {w : World} {K : PySem.W.Frag} {mg : Str → Option Value} {base : Heap} {k : Nat}
theorem w_is_word (T : TxtB K mg base) {sp : ASp} (len : ∀ xs m q, sp xs m q → xs.length = 1)
    (rd : Reads K n_is_word (t_is_word K) sp) : Def P w K mg base (k + 1) "is_word" p_is_word sp := okT T.t_is_word sc_is_word len fun f cdv A o s H E hr hgd => by
  have hu := room164 hr
  exact ⟨(t_is_word K), (ass_cons (as_if (at_w (aw_or (at_not (at_val (ae_callB cb_isi (by rfl) T.b_isinstance (by decide +kernel) (aa_cons (ae_var (pv 0)) (aa_cons (ae_ty (n := "str") rfl T.b_str (by decide +kernel)) aa_nil))))) (aw_or1 (at_not (at_chain ob_le ob_le ae_int (ae_callB cb_len (by rfl) T.b_len (by decide +kernel) (aa_cons (ae_var (pv 0)) aa_nil)) (ae_gInt rfl T.c_MOST_LETTERS))))))
        (ass_one (as_ret ae_bl))
        ass_nil)
      (ass_one (as_ret (ae_callB (cb_all rfl) (by rfl) T.b_all (by decide +kernel) (aa_cons (ae_lc (own := [("sign", 1)]) rfl sc_is_word.nd (ai_str (ae_var (pv 0))) (blkOk_by (own := [("sign", 1)]) (N := n_is_word) (sc := defScope s_is_word) (by decide +kernel)) (fun _ _ _ _ _ => (ag_name (pg_name (i := 1) sc_is_word.nd rfl (.inl rfl)))) (fun _ _ _ _ _ => ats_nil) (fun _ _ _ _ _ => (ae_cmp (ob_in hu) (ae_var (pv 1)) (ae_gStr rfl T.c_LETTERS) rfl))) aa_nil))))), rd⟩
theorem w_is_whole (T : TxtB K mg base) {sp : ASp} (len : ∀ xs m q, sp xs m q → xs.length = 1)
    (rd : Reads K n_is_whole (t_is_whole K) sp) : Def P w K mg base (k + 1) "is_whole" p_is_whole sp := okT T.t_is_whole sc_is_whole len fun f cdv A o s H E hr hgd => by
  have hu := room164 hr
  exact ⟨(t_is_whole K), (ass_one (as_ret (ae_and (ae_callB cb_isi (by rfl) T.b_isinstance (by decide +kernel) (aa_cons (ae_var (pv 0)) (aa_cons (ae_ty (n := "int") rfl T.b_int (by decide +kernel)) aa_nil))) (ae_one (ae_not (ae_callB cb_isi (by rfl) T.b_isinstance (by decide +kernel) (aa_cons (ae_var (pv 0)) (aa_cons (ae_ty (n := "bool") rfl T.b_bool (by decide +kernel)) aa_nil)))))))), rd⟩
theorem w_is_marked (T : TxtB K mg base) {sp : ASp} (len : ∀ xs m q, sp xs m q → xs.length = 1)
    (rd : Reads K n_is_marked (t_is_marked K) sp) : Def P w K mg base (k + 1) "is_marked" p_is_marked sp := okT T.t_is_marked sc_is_marked len fun f cdv A o s H E hr hgd => by
  have hu := room164 hr
  exact ⟨(t_is_marked K), (ass_one (as_ret (ae_and (ae_callB cb_isi (by rfl) T.b_isinstance (by decide +kernel) (aa_cons (ae_ix (ob_ix hu) (ae_var (pv 0)) ae_int) (aa_cons (ae_ty (n := "str") rfl T.b_str (by decide +kernel)) aa_nil))) (ae_one (ae_cmp (ob_eq hu) (ae_ix (ob_ix hu) (ae_var (pv 0)) ae_int) (ae_gStr rfl T.c_UNKNOWN) (nomark _)))))), rd⟩
theorem w_is_term (T : TxtB K mg base) {sp_is_marked : ASp} {sp_is_whole : ASp} {sp_is_word : ASp} (d_is_marked : Def P w K mg base k "is_marked" p_is_marked sp_is_marked) (d_is_whole : Def P w K mg base k "is_whole" p_is_whole sp_is_whole) (d_is_word : Def P w K mg base k "is_word" p_is_word sp_is_word) {sp : ASp} (len : ∀ xs m q, sp xs m q → xs.length = 1)
    (rd : Reads K n_is_term (t_is_term K sp_is_marked sp_is_whole sp_is_word) sp) : Def P w K mg base (k + 1) "is_term" p_is_term sp := okT T.t_is_term sc_is_term len fun f cdv A o s H E hr hgd => by
  have hu := room164 hr
  exact ⟨(t_is_term K sp_is_marked sp_is_whole sp_is_word), (ass_cons (as_set (i := 1) sc_is_term.nd rfl (.inl rfl) (ae_lst (aa_cons (ae_var (pv 0)) aa_nil)))
      (ass_cons (as_while PassesOwn.never (at_neNil hu (ae_var (pv 1)))
        (ass_cons (as_set (i := 2) sc_is_term.nd rfl (.inl rfl) (ae_pop (ae_var (pv 1))))
      (ass_one (as_if (at_w (aw_and (at_val (ae_callB cb_isi (by rfl) T.b_isinstance (by decide +kernel) (aa_cons (ae_var (pv 2)) (aa_cons (ae_ty (n := "tuple") rfl T.b_tuple (by decide +kernel)) aa_nil)))) (aw_and1 (at_cmp (ob_ne0 hu) (ae_var (pv 2)) (ae_tup aa_nil) (nomark _)))))
        (ass_cons (as_if (at_cmp (ob_ne hu) (ae_callB cb_len (by rfl) T.b_len (by decide +kernel) (aa_cons (ae_var (pv 2)) aa_nil)) ae_int (nomark _))
        (ass_one (as_ret ae_bl))
        ass_nil)
      (ass_cons (as_asg (ae_var (pv 2)) (ag_tup rfl (ags_cons (ag_name (pg_name (i := 3) sc_is_term.nd rfl (.inl rfl))) (ags_cons (ag_name (pg_name (i := 4) sc_is_term.nd rfl (.inl rfl))) ags_nil))))
      (ass_one (as_if (at_not (at_val (ae_callN d_is_marked hr (by omega) hgd rfl (aa_cons (ae_var (pv 2)) aa_nil))))
        (ass_one (as_expr (ae_extend (ae_var (pv 1)) (aa_cons (ae_lst (aa_cons (ae_var (pv 4)) (aa_cons (ae_var (pv 3)) aa_nil))) aa_nil))))
        (ass_one (as_if (at_w (aw_or (at_not (at_val (ae_callN d_is_whole hr (by omega) hgd rfl (aa_cons (ae_var (pv 4)) aa_nil)))) (aw_or1 (at_cmp ob_lt (ae_var (pv 4)) ae_int (nomark _)))))
        (ass_one (as_ret ae_bl))
        ass_nil))))))
        (ass_one (as_if (at_w (aw_and (at_not (at_val (ae_callB cb_isi (by rfl) T.b_isinstance (by decide +kernel) (aa_cons (ae_var (pv 2)) (aa_cons (ae_ty (n := "tuple") rfl T.b_tuple (by decide +kernel)) aa_nil))))) (aw_and (at_not (at_val (ae_callN d_is_whole hr (by omega) hgd rfl (aa_cons (ae_var (pv 2)) aa_nil)))) (aw_and1 (at_not (at_val (ae_callN d_is_word hr (by omega) hgd rfl (aa_cons (ae_var (pv 2)) aa_nil))))))))
        (ass_one (as_ret ae_bl))
        ass_nil))))))
      (ass_one (as_ret ae_bl)))), rd⟩
theorem w__law_deck (T : TxtB K mg base) {sp : ASp} (len : ∀ xs m q, sp xs m q → xs.length = 1)
    (rd : Reads K n__law_deck (t__law_deck K) sp) : Def P w K mg base (k + 1) "_law_deck" p__law_deck sp := okT T.t__law_deck sc__law_deck len fun f cdv A o s H E hr hgd => by
  have hu := room164 hr
  exact ⟨(t__law_deck K), (ass_cons (as_set (i := 1) sc__law_deck.nd rfl (.inl rfl) (ae_callTy (cb_list rfl) (by rfl) T.b_list (by decide +kernel) (aa_cons (ae_slice sb_sl (ae_var (pv 0)) ao_none (ao_some ae_int)) aa_nil)))
      (ass_one (as_ret (ae_lst (aa_cons (ae_var (pv 1)) (aa_cons (ae_op ob_add ae_int (ae_op ob_mod (ae_callB (cb_sum rfl) (by rfl) T.b_sum (by decide +kernel) (aa_cons (ae_var (pv 1)) aa_nil)) ae_int)) (aa_cons ae_int aa_nil))))))), rd⟩
theorem w__law_draw (T : TxtB K mg base) {sp : ASp} (len : ∀ xs m q, sp xs m q → xs.length = 2)
    (rd : Reads K n__law_draw (t__law_draw K) sp) : Def P w K mg base (k + 1) "_law_draw" p__law_draw sp := okT T.t__law_draw sc__law_draw len fun f cdv A o s H E hr hgd => by
  have hu := room164 hr
  exact ⟨(t__law_draw K), (ass_cons (as_asg (ae_op ob_add (ae_ix (ob_ix hu) (ae_var (pv 0)) ae_int) ae_int) (ag_sub (ae_var (pv 0)) ae_int (st_set hu)))
      (ass_cons (as_set (i := 2) sc__law_draw.nd rfl (.inl rfl) (ae_ix (ob_ix hu) (ae_var (pv 0)) ae_int))
      (ass_cons (as_set (i := 3) sc__law_draw.nd rfl (.inl rfl) (ae_ix (ob_ix hu) (ae_var (pv 0)) ae_int))
      (ass_cons (as_if (at_neNil hu (ae_var (pv 2)))
        (ass_cons (as_set (i := 3) sc__law_draw.nd rfl (.inl rfl) (ae_popAt (ae_var (pv 2)) (aa_cons ae_int aa_nil)))
      (ass_cons (as_if (at_cmp ob_ge (ae_var (pv 3)) (ae_op ob_pow ae_int ae_int) (nomark _))
        (ass_cons (as_expr (ae_insert (ae_var (pv 2)) (aa_cons ae_int (aa_cons (ae_op ob_fdiv (ae_var (pv 3)) (ae_var (pv 1))) aa_nil))))
      (ass_one (as_ret (ae_op ob_mod (ae_var (pv 3)) (ae_var (pv 1))))))
        ass_nil)
      (ass_one (as_set (i := 3) sc__law_draw.nd rfl (.inl rfl) (ae_op ob_add (ae_var (pv 3)) (ae_ix (ob_ix hu) (ae_var (pv 0)) ae_int))))))
        ass_nil)
      (ass_cons (as_set (i := 4) sc__law_draw.nd rfl (.inl rfl) (ae_op ob_mod (ae_op ob_add (ae_op ob_add (ae_op ob_mul (ae_op ob_mod (ae_var (pv 3)) ae_int) ae_int) (ae_op ob_mul ae_int (ae_ix (ob_ix hu) (ae_var (pv 0)) ae_int))) ae_int) ae_int))
      (ass_cons (as_set (i := 4) sc__law_draw.nd rfl (.inl rfl) (ae_op ob_mod (ae_op ob_add (ae_op ob_add (ae_op ob_mul (ae_var (pv 4)) (ae_var (pv 4))) (ae_op ob_mul ae_int (ae_var (pv 4)))) (ae_ix (ob_ix hu) (ae_var (pv 0)) ae_int)) ae_int))
      (ass_cons (as_asg (ae_var (pv 4)) (ag_sub (ae_var (pv 0)) ae_int (st_set hu)))
      (ass_one (as_ret (ae_op ob_mod (ae_op ob_fdiv (ae_op ob_mod (ae_op ob_mul (ae_var (pv 4)) (ae_op ob_add (ae_var (pv 4)) ae_int)) ae_int) ae_int) (ae_var (pv 1)))))))))))), rd⟩
theorem w__law_names (T : TxtB K mg base) {sp__law_draw : ASp} (d__law_draw : Def P w K mg base k "_law_draw" p__law_draw sp__law_draw) {sp : ASp} (len : ∀ xs m q, sp xs m q → xs.length = 2)
    (rd : Reads K n__law_names (t__law_names K sp__law_draw) sp) : Def P w K mg base (k + 1) "_law_names" p__law_names sp := okT T.t__law_names sc__law_names len fun f cdv A o s H E hr hgd => by
  have hu := room164 hr
  exact ⟨(t__law_names K sp__law_draw), (ass_cons (as_set (i := 2) sc__law_names.nd rfl (.inr rfl) ae_str)
      (ass_cons (as_set (i := 3) sc__law_names.nd rfl (.inr rfl) (ae_lst (aa_cons ae_str (aa_cons ae_str (aa_cons ae_str (aa_cons ae_str (aa_cons ae_str (aa_cons ae_str (aa_cons ae_str (aa_cons ae_str (aa_cons ae_str (aa_cons ae_str (aa_cons ae_str (aa_cons ae_str aa_nil))))))))))))))
      (ass_cons (as_set (i := 4) sc__law_names.nd rfl (.inl rfl) (ae_callN d__law_draw hr (by omega) hgd rfl (aa_cons (ae_var (pv 0)) (aa_cons ae_int aa_nil))))
      (ass_cons (as_set (i := 5) sc__law_names.nd rfl (.inr rfl) (ae_callN d__law_draw hr (by omega) hgd rfl (aa_cons (ae_var (pv 0)) (aa_cons ae_int aa_nil))))
      (ass_cons (as_set (i := 6) sc__law_names.nd rfl (.inr rfl) (ae_join ae_str (ae_lc (own := [("_law_k", 9)]) rfl sc__law_names.nd (ai_range1 rfl T.b_range ae_int) (blkOk_by (own := [("_law_k", 9)]) (N := n__law_names) (sc := defScope s__law_names) (by decide +kernel)) (fun _ _ _ _ _ => (ag_name (pg_name (i := 9) sc__law_names.nd rfl (.inl rfl)))) (fun _ _ _ _ _ => ats_nil) (fun _ _ _ _ _ => (ae_ix (ob_ix hu) (ae_var (pv 2)) (ae_callN d__law_draw hr (by omega) hgd rfl (aa_cons (ae_var (pv 0)) (aa_cons ae_int aa_nil))))))))
      (ass_cons (as_set (i := 7) sc__law_names.nd rfl (.inr rfl) (ae_op ob_add ae_int (ae_callN d__law_draw hr (by omega) hgd rfl (aa_cons (ae_var (pv 0)) (aa_cons ae_int aa_nil)))))
      (ass_cons (as_set (i := 8) sc__law_names.nd rfl (.inr rfl) (ae_callN d__law_draw hr (by omega) hgd rfl (aa_cons (ae_var (pv 0)) (aa_cons (ae_var (pv 7)) aa_nil))))
      (ass_cons (as_if (at_cmp (ob_eq hu) (ae_var (pv 4)) ae_int (nomark _))
        (ass_one (as_ret (ae_lc (own := [("_law_k", 9)]) rfl sc__law_names.nd (ai_range1 rfl T.b_range (ae_var (pv 1))) (blkOk_by (own := [("_law_k", 9)]) (N := n__law_names) (sc := defScope s__law_names) (by decide +kernel)) (fun _ _ _ _ _ => (ag_name (pg_name (i := 9) sc__law_names.nd rfl (.inl rfl)))) (fun _ _ _ _ _ => ats_nil) (fun _ _ _ _ _ => (ae_ix (ob_ix hu) (ae_var (pv 3)) (ae_op ob_mod (ae_op ob_add (ae_var (pv 5)) (ae_op ob_mul ae_int (ae_var (pv 9)))) ae_int))))))
        ass_nil)
      (ass_cons (as_if (at_w (aw_and (at_cmp (ob_eq hu) (ae_var (pv 4)) ae_int (nomark _)) (aw_and1 (at_cmp ob_lt (ae_var (pv 1)) ae_int (nomark _)))))
        (ass_one (as_ret (ae_lc (own := [("_law_k", 9)]) rfl sc__law_names.nd (ai_range1 rfl T.b_range (ae_var (pv 1))) (blkOk_by (own := [("_law_k", 9)]) (N := n__law_names) (sc := defScope s__law_names) (by decide +kernel)) (fun _ _ _ _ _ => (ag_name (pg_name (i := 9) sc__law_names.nd rfl (.inl rfl)))) (fun _ _ _ _ _ => ats_nil) (fun _ _ _ _ _ => (ae_slice sb_sl (ae_var (pv 6)) ao_none (ao_some (ae_op ob_add ae_int (ae_var (pv 9)))))))))
        ass_nil)
      (ass_one (as_ret (ae_lc (own := [("_law_k", 9)]) rfl sc__law_names.nd (ai_range1 rfl T.b_range (ae_var (pv 1))) (blkOk_by (own := [("_law_k", 9)]) (N := n__law_names) (sc := defScope s__law_names) (by decide +kernel)) (fun _ _ _ _ _ => (ag_name (pg_name (i := 9) sc__law_names.nd rfl (.inl rfl)))) (fun _ _ _ _ _ => ats_nil) (fun _ _ _ _ _ => (ae_op ob_add (ae_op ob_add (ae_slice sb_sl (ae_var (pv 6)) ao_none (ao_some (ae_var (pv 8)))) (ae_ix (ob_ix hu) (ae_var (pv 2)) (ae_op ob_mod (ae_op ob_add (ae_var (pv 5)) (ae_op ob_mul ae_int (ae_var (pv 9)))) ae_int))) (ae_slice sb_sl (ae_var (pv 6)) (ao_some (ae_op ob_add (ae_var (pv 8)) ae_int)) (ao_some (ae_var (pv 7)))))))))))))))))), rd⟩
theorem w__law_number (T : TxtB K mg base) {sp__law_draw : ASp} (d__law_draw : Def P w K mg base k "_law_draw" p__law_draw sp__law_draw) {sp : ASp} (len : ∀ xs m q, sp xs m q → xs.length = 1)
    (rd : Reads K n__law_number (t__law_number K sp__law_draw) sp) : Def P w K mg base (k + 1) "_law_number" p__law_number sp := okT T.t__law_number sc__law_number len fun f cdv A o s H E hr hgd => by
  have hu := room164 hr
  exact ⟨(t__law_number K sp__law_draw), (ass_cons (as_set (i := 1) sc__law_number.nd rfl (.inl rfl) (ae_op ob_add (ae_op ob_mul (ae_callN d__law_draw hr (by omega) hgd rfl (aa_cons (ae_var (pv 0)) (aa_cons (ae_op ob_pow ae_int ae_int) aa_nil))) (ae_op ob_pow ae_int ae_int)) (ae_callN d__law_draw hr (by omega) hgd rfl (aa_cons (ae_var (pv 0)) (aa_cons (ae_op ob_pow ae_int ae_int) aa_nil)))))
      (ass_one (as_ret (ae_ix (ob_ix hu) (ae_lst (aa_cons ae_int (aa_cons ae_int (aa_cons ae_int (aa_cons ae_int (aa_cons ae_int (aa_cons ae_int (aa_cons ae_int (aa_cons (ae_un ub_neg ae_int) (aa_cons (ae_un ub_neg ae_int) (aa_cons (ae_op ob_pow ae_int ae_int) (aa_cons (ae_var (pv 1)) (aa_cons (ae_op ob_subB ae_int (ae_var (pv 1))) aa_nil))))))))))))) (ae_callN d__law_draw hr (by omega) hgd rfl (aa_cons (ae_var (pv 0)) (aa_cons ae_int aa_nil))))))), rd⟩
theorem w__law_tip (T : TxtB K mg base) {sp__law_draw : ASp} {sp__law_number : ASp} (d__law_draw : Def P w K mg base k "_law_draw" p__law_draw sp__law_draw) (d__law_number : Def P w K mg base k "_law_number" p__law_number sp__law_number) {sp : ASp} (len : ∀ xs m q, sp xs m q → xs.length = 3)
    (rd : Reads K n__law_tip (t__law_tip K sp__law_draw sp__law_number) sp) : Def P w K mg base (k + 1) "_law_tip" p__law_tip sp := okT T.t__law_tip sc__law_tip len fun f cdv A o s H E hr hgd => by
  have hu := room164 hr
  exact ⟨(t__law_tip K sp__law_draw sp__law_number), (ass_cons (as_set (i := 3) sc__law_tip.nd rfl (.inl rfl) (ae_callN d__law_draw hr (by omega) hgd rfl (aa_cons (ae_var (pv 0)) (aa_cons ae_int aa_nil))))
      (ass_cons (as_if (at_w (aw_and (at_cmp ob_lt (ae_var (pv 3)) ae_int (nomark _)) (aw_and1 (at_neNil hu (ae_var (pv 2))))))
        (ass_one (as_ret (ae_tup (aa_cons ae_str (aa_cons (ae_ix (ob_ix hu) (ae_var (pv 2)) (ae_callN d__law_draw hr (by omega) hgd rfl (aa_cons (ae_var (pv 0)) (aa_cons (ae_callB cb_len (by rfl) T.b_len (by decide +kernel) (aa_cons (ae_var (pv 2)) aa_nil)) aa_nil)))) aa_nil)))))
        ass_nil)
      (ass_cons (as_if (at_cmp (ob_eq hu) (ae_var (pv 3)) ae_int (nomark _))
        (ass_one (as_ret (ae_tup aa_nil)))
        ass_nil)
      (ass_cons (as_if (at_cmp ob_lt (ae_var (pv 3)) ae_int (nomark _))
        (ass_one (as_ret (ae_ix (ob_ix hu) (ae_var (pv 1)) (ae_callN d__law_draw hr (by omega) hgd rfl (aa_cons (ae_var (pv 0)) (aa_cons (ae_callB cb_len (by rfl) T.b_len (by decide +kernel) (aa_cons (ae_var (pv 1)) aa_nil)) aa_nil))))))
        ass_nil)
      (ass_one (as_ret (ae_callN d__law_number hr (by omega) hgd rfl (aa_cons (ae_var (pv 0)) aa_nil)))))))), rd⟩
theorem w__law_term (T : TxtB K mg base) {sp__law_draw : ASp} {sp__law_term : ASp} {sp__law_tip : ASp} (d__law_draw : Def P w K mg base k "_law_draw" p__law_draw sp__law_draw) (d__law_term : Def P w K mg base k "_law_term" p__law_term sp__law_term) (d__law_tip : Def P w K mg base k "_law_tip" p__law_tip sp__law_tip) {sp : ASp} (len : ∀ xs m q, sp xs m q → xs.length = 5)
    (rd : Reads K n__law_term (t__law_term K sp__law_draw sp__law_term sp__law_tip) sp) : Def P w K mg base (k + 1) "_law_term" p__law_term sp := okT T.t__law_term sc__law_term len fun f cdv A o s H E hr hgd => by
  have hu := room164 hr
  exact ⟨(t__law_term K sp__law_draw sp__law_term sp__law_tip), (ass_cons (as_set (i := 5) sc__law_term.nd rfl (.inl rfl) (ae_callN d__law_draw hr (by omega) hgd rfl (aa_cons (ae_var (pv 0)) (aa_cons ae_int aa_nil))))
      (ass_cons (as_if (at_w (aw_or (at_cmp ob_lt (ae_var (pv 3)) ae_int (nomark _)) (aw_or (at_cmp ob_lt (ae_ix (ob_ix hu) (ae_var (pv 4)) ae_int) ae_int (nomark _)) (aw_or1 (at_cmp (ob_eq hu) (ae_var (pv 5)) ae_int (nomark _))))))
        (ass_one (as_ret (ae_callN d__law_tip hr (by omega) hgd rfl (aa_cons (ae_var (pv 0)) (aa_cons (ae_var (pv 1)) (aa_cons (ae_var (pv 2)) aa_nil))))))
        ass_nil)
      (ass_cons (as_asg (ae_op ob_sub (ae_ix (ob_ix hu) (ae_var (pv 4)) ae_int) ae_int) (ag_sub (ae_var (pv 4)) ae_int (st_set hu)))
      (ass_cons (as_set (i := 6) sc__law_term.nd rfl (.inl rfl) (ae_callN d__law_term hr (by omega) hgd rfl (aa_cons (ae_var (pv 0)) (aa_cons (ae_var (pv 1)) (aa_cons (ae_var (pv 2)) (aa_cons (ae_ix (ob_ix hu) (ae_lst (aa_cons (ae_op ob_sub (ae_var (pv 3)) ae_int) (aa_cons ae_int aa_nil))) (ae_callTy cb_int (by rfl) T.b_int (by decide +kernel) (aa_cons (ae_cmp (ob_eq hu) (ae_var (pv 5)) ae_int (nomark _)) aa_nil))) (aa_cons (ae_var (pv 4)) aa_nil)))))))
      (ass_one (as_ret (ae_tup (aa_cons (ae_var (pv 6)) (aa_cons (ae_callN d__law_term hr (by omega) hgd rfl (aa_cons (ae_var (pv 0)) (aa_cons (ae_var (pv 1)) (aa_cons (ae_var (pv 2)) (aa_cons (ae_op ob_sub (ae_var (pv 3)) ae_int) (aa_cons (ae_var (pv 4)) aa_nil)))))) aa_nil))))))))), rd⟩
theorem w__law_any_term (T : TxtB K mg base) {sp__law_draw : ASp} {sp__law_term : ASp} {sp__law_tip : ASp} (d__law_draw : Def P w K mg base k "_law_draw" p__law_draw sp__law_draw) (d__law_term : Def P w K mg base k "_law_term" p__law_term sp__law_term) (d__law_tip : Def P w K mg base k "_law_tip" p__law_tip sp__law_tip) {sp : ASp} (len : ∀ xs m q, sp xs m q → xs.length = 3)
    (rd : Reads K n__law_any_term (t__law_any_term K sp__law_draw sp__law_term sp__law_tip) sp) : Def P w K mg base (k + 1) "_law_any_term" p__law_any_term sp := okT T.t__law_any_term sc__law_any_term len fun f cdv A o s H E hr hgd => by
  have hu := room164 hr
  exact ⟨(t__law_any_term K sp__law_draw sp__law_term sp__law_tip), (ass_cons (as_set (i := 3) sc__law_any_term.nd rfl (.inl rfl) (ae_callN d__law_draw hr (by omega) hgd rfl (aa_cons (ae_var (pv 0)) (aa_cons ae_int aa_nil))))
      (ass_cons (as_if (at_cmp (ob_eq hu) (ae_var (pv 3)) ae_int (nomark _))
        (ass_one (as_ret (ae_callN d__law_term hr (by omega) hgd rfl (aa_cons (ae_var (pv 0)) (aa_cons (ae_var (pv 1)) (aa_cons (ae_var (pv 2)) (aa_cons ae_int (aa_cons (ae_lst (aa_cons ae_int aa_nil)) aa_nil))))))))
        ass_nil)
      (ass_cons (as_if (at_cmp ob_gt (ae_var (pv 3)) ae_int (nomark _))
        (ass_cons (as_set (i := 4) sc__law_any_term.nd rfl (.inl rfl) (ae_callN d__law_tip hr (by omega) hgd rfl (aa_cons (ae_var (pv 0)) (aa_cons (ae_var (pv 1)) (aa_cons (ae_var (pv 2)) aa_nil)))))
      (ass_cons (as_for PassesOwn.never rfl (ai_range1 rfl T.b_range (ae_op ob_add ae_int (ae_callN d__law_draw hr (by omega) hgd rfl (aa_cons (ae_var (pv 0)) (aa_cons ae_int aa_nil))))) (ag_name (pg_name (i := 5) sc__law_any_term.nd rfl (.inl rfl)))
        (ass_cons (as_set (i := 6) sc__law_any_term.nd rfl (.inl rfl) (ae_callN d__law_tip hr (by omega) hgd rfl (aa_cons (ae_var (pv 0)) (aa_cons (ae_var (pv 1)) (aa_cons (ae_var (pv 2)) aa_nil)))))
      (ass_one (as_set (i := 4) sc__law_any_term.nd rfl (.inl rfl) (ae_ix (ob_ix hu) (ae_lst (aa_cons (ae_tup (aa_cons (ae_var (pv 6)) (aa_cons (ae_var (pv 4)) aa_nil))) (aa_cons (ae_tup (aa_cons (ae_var (pv 4)) (aa_cons (ae_var (pv 6)) aa_nil))) aa_nil))) (ae_op ob_sub (ae_var (pv 3)) ae_int))))))
      (ass_one (as_ret (ae_var (pv 4))))))
        ass_nil)
      (ass_one (as_ret (ae_callN d__law_term hr (by omega) hgd rfl (aa_cons (ae_var (pv 0)) (aa_cons (ae_var (pv 1)) (aa_cons (ae_var (pv 2)) (aa_cons (ae_ix (ob_ix hu) (ae_lst (aa_cons ae_int (aa_cons ae_int (aa_cons ae_int aa_nil)))) (ae_callN d__law_draw hr (by omega) hgd rfl (aa_cons (ae_var (pv 0)) (aa_cons ae_int aa_nil)))) (aa_cons (ae_lst (aa_cons (ae_ix (ob_ix hu) (ae_lst (aa_cons ae_int (aa_cons ae_int (aa_cons ae_int aa_nil)))) (ae_callN d__law_draw hr (by omega) hgd rfl (aa_cons (ae_var (pv 0)) (aa_cons ae_int aa_nil)))) aa_nil)) aa_nil))))))))))), rd⟩
theorem w__law_is_word (T : TxtB K mg base) {sp : ASp} (len : ∀ xs m q, sp xs m q → xs.length = 1)
    (rd : Reads K n__law_is_word (t__law_is_word K) sp) : Def P w K mg base (k + 1) "_law_is_word" p__law_is_word sp := okT T.t__law_is_word sc__law_is_word len fun f cdv A o s H E hr hgd => by
  have hu := room164 hr
  exact ⟨(t__law_is_word K), (ass_cons (as_if (at_w (aw_or (at_not (at_val (ae_callB cb_isi (by rfl) T.b_isinstance (by decide +kernel) (aa_cons (ae_var (pv 0)) (aa_cons (ae_ty (n := "str") rfl T.b_str (by decide +kernel)) aa_nil))))) (aw_or1 (at_not (at_chain ob_le ob_le ae_int (ae_callB cb_len (by rfl) T.b_len (by decide +kernel) (aa_cons (ae_var (pv 0)) aa_nil)) ae_int)))))
        (ass_one (as_ret ae_bl))
        ass_nil)
      (ass_one (as_ret (ae_eqNil hu (ae_lc (own := [("_law_sign", 1)]) rfl sc__law_is_word.nd (ai_str (ae_var (pv 0))) (blkOk_by (own := [("_law_sign", 1)]) (N := n__law_is_word) (sc := defScope s__law_is_word) (by decide +kernel)) (fun _ _ _ _ _ => (ag_name (pg_name (i := 1) sc__law_is_word.nd rfl (.inl rfl)))) (fun _ _ _ _ _ => (ats_one (at_cmp (ob_notIn hu) (ae_var (pv 1)) ae_str rfl))) (fun _ _ _ _ _ => (ae_var (pv 1)))))))), rd⟩
theorem w__law_whole (T : TxtB K mg base) {sp : ASp} (len : ∀ xs m q, sp xs m q → xs.length = 1)
    (rd : Reads K n__law_whole (t__law_whole K) sp) : Def P w K mg base (k + 1) "_law_whole" p__law_whole sp := okT T.t__law_whole sc__law_whole len fun f cdv A o s H E hr hgd => by
  have hu := room164 hr
  exact ⟨(t__law_whole K), (ass_one (as_ret (ae_and (ae_callB cb_isi (by rfl) T.b_isinstance (by decide +kernel) (aa_cons (ae_var (pv 0)) (aa_cons (ae_ty (n := "int") rfl T.b_int (by decide +kernel)) aa_nil))) (ae_one (ae_not (ae_callB cb_isi (by rfl) T.b_isinstance (by decide +kernel) (aa_cons (ae_var (pv 0)) (aa_cons (ae_ty (n := "bool") rfl T.b_bool (by decide +kernel)) aa_nil)))))))), rd⟩
theorem w__law_is_term (T : TxtB K mg base) {sp__law_is_term : ASp} {sp__law_is_word : ASp} {sp__law_whole : ASp} (d__law_is_term : Def P w K mg base k "_law_is_term" p__law_is_term sp__law_is_term) (d__law_is_word : Def P w K mg base k "_law_is_word" p__law_is_word sp__law_is_word) (d__law_whole : Def P w K mg base k "_law_whole" p__law_whole sp__law_whole) {sp : ASp} (len : ∀ xs m q, sp xs m q → xs.length = 1)
    (rd : Reads K n__law_is_term (t__law_is_term K sp__law_is_term sp__law_is_word sp__law_whole) sp) : Def P w K mg base (k + 1) "_law_is_term" p__law_is_term sp := okT T.t__law_is_term sc__law_is_term len fun f cdv A o s H E hr hgd => by
  have hu := room164 hr
  exact ⟨(t__law_is_term K sp__law_is_term sp__law_is_word sp__law_whole), (ass_cons (as_if (at_not (at_val (ae_callB cb_isi (by rfl) T.b_isinstance (by decide +kernel) (aa_cons (ae_var (pv 0)) (aa_cons (ae_ty (n := "tuple") rfl T.b_tuple (by decide +kernel)) aa_nil)))))
        (ass_one (as_ret (ae_or (ae_callN d__law_whole hr (by omega) hgd rfl (aa_cons (ae_var (pv 0)) aa_nil)) (ae_one (ae_callN d__law_is_word hr (by omega) hgd rfl (aa_cons (ae_var (pv 0)) aa_nil))))))
        ass_nil)
      (ass_cons (as_if (at_cmp (ob_eq0 hu) (ae_var (pv 0)) (ae_tup aa_nil) (nomark _))
        (ass_one (as_ret ae_bl))
        ass_nil)
      (ass_cons (as_if (at_cmp (ob_ne hu) (ae_callB cb_len (by rfl) T.b_len (by decide +kernel) (aa_cons (ae_var (pv 0)) aa_nil)) ae_int (nomark _))
        (ass_one (as_ret ae_bl))
        ass_nil)
      (ass_cons (as_if (at_w (aw_and (at_val (ae_callB cb_isi (by rfl) T.b_isinstance (by decide +kernel) (aa_cons (ae_ix (ob_ix hu) (ae_var (pv 0)) ae_int) (aa_cons (ae_ty (n := "str") rfl T.b_str (by decide +kernel)) aa_nil)))) (aw_and1 (at_cmp (ob_eq hu) (ae_ix (ob_ix hu) (ae_var (pv 0)) ae_int) ae_str (nomark _)))))
        (ass_one (as_ret (ae_and (ae_callN d__law_whole hr (by omega) hgd rfl (aa_cons (ae_ix (ob_ix hu) (ae_var (pv 0)) ae_int) aa_nil)) (ae_one (ae_cmp ob_ge (ae_ix (ob_ix hu) (ae_var (pv 0)) ae_int) ae_int (nomark _))))))
        ass_nil)
      (ass_one (as_ret (ae_and (ae_callN d__law_is_term hr (by omega) hgd rfl (aa_cons (ae_ix (ob_ix hu) (ae_var (pv 0)) ae_int) aa_nil)) (ae_one (ae_callN d__law_is_term hr (by omega) hgd rfl (aa_cons (ae_ix (ob_ix hu) (ae_var (pv 0)) ae_int) aa_nil)))))))))), rd⟩
theorem w__law_odd (T : TxtB K mg base) {sp__law_draw : ASp} (d__law_draw : Def P w K mg base k "_law_draw" p__law_draw sp__law_draw) {sp : ASp} (len : ∀ xs m q, sp xs m q → xs.length = 2)
    (rd : Reads K n__law_odd (t__law_odd K sp__law_draw) sp) : Def P w K mg base (k + 1) "_law_odd" p__law_odd sp := okT T.t__law_odd sc__law_odd len fun f cdv A o s H E hr hgd => by
  have hu := room164 hr
  exact ⟨(t__law_odd K sp__law_draw), (ass_cons (as_set (i := 2) sc__law_odd.nd rfl (.inl rfl) (ae_lst (aa_cons ae_non (aa_cons ae_bl (aa_cons ae_bl (aa_cons ae_int (aa_cons (ae_un ub_neg ae_int) (aa_cons (ae_op ob_pow ae_int ae_int) (aa_cons ae_str (aa_cons ae_str (aa_cons ae_str (aa_cons ae_str (aa_cons ae_str (aa_cons ae_str (aa_cons (ae_tup aa_nil) (aa_cons (ae_tup (aa_cons ae_int aa_nil)) (aa_cons (ae_tup (aa_cons ae_int (aa_cons ae_int (aa_cons ae_int aa_nil)))) (aa_cons (ae_lst aa_nil) (aa_cons ae_dnew aa_nil)))))))))))))))))))
      (ass_cons (as_set (i := 2) sc__law_odd.nd rfl (.inl rfl) (ae_op ob_add (ae_var (pv 2)) (ae_lst (aa_cons (ae_tup (aa_cons ae_str aa_nil)) (aa_cons (ae_tup (aa_cons ae_str (aa_cons (ae_un ub_neg ae_int) aa_nil))) (aa_cons (ae_tup (aa_cons ae_str (aa_cons ae_bl aa_nil))) (aa_cons (ae_tup (aa_cons ae_str (aa_cons ae_str aa_nil))) (aa_cons (ae_tup (aa_cons ae_str (aa_cons ae_int (aa_cons ae_int aa_nil)))) (aa_cons (ae_tup (aa_cons ae_str (aa_cons (ae_tup aa_nil) aa_nil))) (aa_cons (ae_tup (aa_cons ae_str (aa_cons ae_non aa_nil))) (aa_cons (ae_tup (aa_cons ae_non (aa_cons ae_int aa_nil))) aa_nil)))))))))))
      (ass_cons (as_set (i := 2) sc__law_odd.nd rfl (.inl rfl) (ae_op ob_add (ae_var (pv 2)) (ae_lst (aa_cons (ae_lst (aa_cons (ae_var (pv 1)) aa_nil)) (aa_cons (ae_tup (aa_cons (ae_var (pv 1)) aa_nil)) (aa_cons (ae_disp1 ae_int (ae_var (pv 1))) (aa_cons (ae_tup (aa_cons ae_str (aa_cons (ae_var (pv 1)) aa_nil))) (aa_cons (ae_tup (aa_cons (ae_var (pv 1)) (aa_cons ae_str aa_nil))) (aa_cons (ae_tup (aa_cons ae_str (aa_cons ae_int aa_nil))) (aa_cons (ae_tup (aa_cons ae_str (aa_cons ae_int aa_nil))) (aa_cons (ae_tup (aa_cons ae_int (aa_cons (ae_lst (aa_cons ae_int aa_nil)) aa_nil))) aa_nil)))))))))))
      (ass_one (as_ret (ae_ix (ob_ix hu) (ae_var (pv 2)) (ae_callN d__law_draw hr (by omega) hgd rfl (aa_cons (ae_var (pv 0)) (aa_cons (ae_callB cb_len (by rfl) T.b_len (by decide +kernel) (aa_cons (ae_var (pv 2)) aa_nil)) aa_nil))))))))), rd⟩
theorem w__law_bent (T : TxtB K mg base) {sp__law_bent : ASp} {sp__law_draw : ASp} {sp__law_odd : ASp} (d__law_bent : Def P w K mg base k "_law_bent" p__law_bent sp__law_bent) (d__law_draw : Def P w K mg base k "_law_draw" p__law_draw sp__law_draw) (d__law_odd : Def P w K mg base k "_law_odd" p__law_odd sp__law_odd) {sp : ASp} (len : ∀ xs m q, sp xs m q → xs.length = 2)
    (rd : Reads K n__law_bent (t__law_bent K sp__law_bent sp__law_draw sp__law_odd) sp) : Def P w K mg base (k + 1) "_law_bent" p__law_bent sp := okT T.t__law_bent sc__law_bent len fun f cdv A o s H E hr hgd => by
  have hu := room164 hr
  exact ⟨(t__law_bent K sp__law_bent sp__law_draw sp__law_odd), (ass_cons (as_if (at_w (aw_and (at_val (ae_callB cb_isi (by rfl) T.b_isinstance (by decide +kernel) (aa_cons (ae_var (pv 1)) (aa_cons (ae_ty (n := "tuple") rfl T.b_tuple (by decide +kernel)) aa_nil)))) (aw_and (at_cmp (ob_eq hu) (ae_callB cb_len (by rfl) T.b_len (by decide +kernel) (aa_cons (ae_var (pv 1)) aa_nil)) ae_int (nomark _)) (aw_and1 (at_cmp ob_gt (ae_callN d__law_draw hr (by omega) hgd rfl (aa_cons (ae_var (pv 0)) (aa_cons ae_int aa_nil))) ae_int (nomark _))))))
        (ass_cons (as_set (i := 2) sc__law_bent.nd rfl (.inl rfl) (ae_callN d__law_draw hr (by omega) hgd rfl (aa_cons (ae_var (pv 0)) (aa_cons ae_int aa_nil))))
      (ass_one (as_ret (ae_op ob_add (ae_op ob_add (ae_slice sb_sl (ae_var (pv 1)) ao_none (ao_some (ae_var (pv 2)))) (ae_tup (aa_cons (ae_callN d__law_bent hr (by omega) hgd rfl (aa_cons (ae_var (pv 0)) (aa_cons (ae_ix (ob_ix hu) (ae_var (pv 1)) (ae_var (pv 2))) aa_nil))) aa_nil))) (ae_slice sb_sl (ae_var (pv 1)) (ao_some (ae_op ob_add (ae_var (pv 2)) ae_int)) ao_none)))))
        ass_nil)
      (ass_cons (as_set (i := 3) sc__law_bent.nd rfl (.inl rfl) (ae_callN d__law_draw hr (by omega) hgd rfl (aa_cons (ae_var (pv 0)) (aa_cons ae_int aa_nil))))
      (ass_cons (as_if (at_w (aw_and (at_val (ae_callB cb_isi (by rfl) T.b_isinstance (by decide +kernel) (aa_cons (ae_var (pv 1)) (aa_cons (ae_ty (n := "tuple") rfl T.b_tuple (by decide +kernel)) aa_nil)))) (aw_and1 (at_cmp ob_lt (ae_var (pv 3)) ae_int (nomark _)))))
        (ass_one (as_ret (ae_ix (ob_ix hu) (ae_lst (aa_cons (ae_callTy (cb_list rfl) (by rfl) T.b_list (by decide +kernel) (aa_cons (ae_var (pv 1)) aa_nil)) (aa_cons (ae_op ob_add (ae_var (pv 1)) (ae_tup (aa_cons ae_int aa_nil))) (aa_cons (ae_slice sb_sl (ae_var (pv 1)) ao_none (ao_some ae_int)) (aa_cons (ae_rev (ae_var (pv 1))) aa_nil))))) (ae_var (pv 3)))))
        ass_nil)
      (ass_cons (as_if (at_w (aw_and (at_val (ae_callB cb_isi (by rfl) T.b_isinstance (by decide +kernel) (aa_cons (ae_var (pv 1)) (aa_cons (ae_ty (n := "str") rfl T.b_str (by decide +kernel)) aa_nil)))) (aw_and1 (at_cmp ob_lt (ae_var (pv 3)) ae_int (nomark _)))))
        (ass_one (as_ret (ae_ix (ob_ix hu) (ae_lst (aa_cons (ae_op ob_add (ae_var (pv 1)) ae_str) (aa_cons (ae_upper (ae_var (pv 1))) (aa_cons (ae_slice sb_sl (ae_var (pv 1)) (ao_some ae_int) ao_none) (aa_cons (ae_op ob_add (ae_var (pv 1)) ae_str) aa_nil))))) (ae_var (pv 3)))))
        ass_nil)
      (ass_cons (as_if (at_w (aw_and (at_val (ae_callB cb_isi (by rfl) T.b_isinstance (by decide +kernel) (aa_cons (ae_var (pv 1)) (aa_cons (ae_ty (n := "int") rfl T.b_int (by decide +kernel)) aa_nil)))) (aw_and1 (at_cmp ob_lt (ae_var (pv 3)) ae_int (nomark _)))))
        (ass_one (as_ret (ae_ix (ob_ix hu) (ae_lst (aa_cons (ae_cmp (ob_eq hu) (ae_var (pv 1)) ae_int (nomark _)) (aa_cons (ae_op ob_subB ae_int (ae_var (pv 1))) (aa_cons (ae_callTy cb_strB (by rfl) T.b_str (by decide +kernel) (aa_cons (ae_var (pv 1)) aa_nil)) aa_nil)))) (ae_var (pv 3)))))
        ass_nil)
      (ass_one (as_ret (ae_callN d__law_odd hr (by omega) hgd rfl (aa_cons (ae_var (pv 0)) (aa_cons (ae_var (pv 1)) aa_nil)))))))))), rd⟩
theorem w__law_right (T : TxtB K mg base) {sp__law_is_term : ASp} {sp__law_is_word : ASp} {sp_is_term : ASp} {sp_is_word : ASp} (d__law_is_term : Def P w K mg base k "_law_is_term" p__law_is_term sp__law_is_term) (d__law_is_word : Def P w K mg base k "_law_is_word" p__law_is_word sp__law_is_word) (d_is_term : Def P w K mg base k "is_term" p_is_term sp_is_term) (d_is_word : Def P w K mg base k "is_word" p_is_word sp_is_word) {sp : ASp} (len : ∀ xs m q, sp xs m q → xs.length = 1)
    (rd : Reads K n__law_right (t__law_right K sp__law_is_term sp__law_is_word sp_is_term sp_is_word) sp) : Def P w K mg base (k + 1) "_law_right" p__law_right sp := okT T.t__law_right sc__law_right len fun f cdv A o s H E hr hgd => by
  have hu := room164 hr
  exact ⟨(t__law_right K sp__law_is_term sp__law_is_word sp_is_term sp_is_word), (ass_cons (as_set (i := 1) sc__law_right.nd rfl (.inl rfl) (ae_callB (cb_reprO T.mods hu hgd) (by rfl) T.b_repr (by decide +kernel) (aa_cons (ae_var (pv 0)) aa_nil)))
      (ass_cons (as_if (at_w (aw_or (at_cmp (ob_ne hu) (ae_callB (cb_reprO T.mods hu hgd) (by rfl) T.b_repr (by decide +kernel) (aa_cons (ae_callN d_is_term hr (by omega) hgd rfl (aa_cons (ae_var (pv 0)) aa_nil)) aa_nil)) (ae_callB (cb_reprO T.mods hu hgd) (by rfl) T.b_repr (by decide +kernel) (aa_cons (ae_callN d__law_is_term hr (by omega) hgd rfl (aa_cons (ae_var (pv 0)) aa_nil)) aa_nil)) (nomark _)) (aw_or1 (at_cmp (ob_ne hu) (ae_callB (cb_reprO T.mods hu hgd) (by rfl) T.b_repr (by decide +kernel) (aa_cons (ae_callN d_is_word hr (by omega) hgd rfl (aa_cons (ae_var (pv 0)) aa_nil)) aa_nil)) (ae_callB (cb_reprO T.mods hu hgd) (by rfl) T.b_repr (by decide +kernel) (aa_cons (ae_callN d__law_is_word hr (by omega) hgd rfl (aa_cons (ae_var (pv 0)) aa_nil)) aa_nil)) (nomark _)))))
        (ass_one (as_ret ae_bl))
        ass_nil)
      (ass_one (as_ret (ae_cmp (ob_eq hu) (ae_callB (cb_reprO T.mods hu hgd) (by rfl) T.b_repr (by decide +kernel) (aa_cons (ae_var (pv 0)) aa_nil)) (ae_var (pv 1)) (nomark _)))))), rd⟩
theorem w_law (T : TxtB K mg base) {sp__law_any_term : ASp} {sp__law_bent : ASp} {sp__law_deck : ASp} {sp__law_draw : ASp} {sp__law_names : ASp} {sp__law_right : ASp} {sp_is_term : ASp} {sp_is_word : ASp} (d__law_any_term : Def P w K mg base k "_law_any_term" p__law_any_term sp__law_any_term) (d__law_bent : Def P w K mg base k "_law_bent" p__law_bent sp__law_bent) (d__law_deck : Def P w K mg base k "_law_deck" p__law_deck sp__law_deck) (d__law_draw : Def P w K mg base k "_law_draw" p__law_draw sp__law_draw) (d__law_names : Def P w K mg base k "_law_names" p__law_names sp__law_names) (d__law_right : Def P w K mg base k "_law_right" p__law_right sp__law_right) (d_is_term : Def P w K mg base k "is_term" p_is_term sp_is_term) (d_is_word : Def P w K mg base k "is_word" p_is_word sp_is_word) {sp : ASp} (len : ∀ xs m q, sp xs m q → xs.length = 1)
    (rd : Reads K n_law (t_law K sp__law_any_term sp__law_bent sp__law_deck sp__law_draw sp__law_names sp__law_right sp_is_term sp_is_word) sp) : Def P w K mg base (k + 1) "law" p_law sp := okT T.t_law sc_law len fun f cdv A o s H E hr hgd => by
  have hu := room164 hr
  exact ⟨(t_law K sp__law_any_term sp__law_bent sp__law_deck sp__law_draw sp__law_names sp__law_right sp_is_term sp_is_word), (ass_cons (as_set (i := 1) sc_law.nd rfl (.inl rfl) (ae_callN d__law_deck hr (by omega) hgd rfl (aa_cons (ae_var (pv 0)) aa_nil)))
      (ass_cons (as_set (i := 2) sc_law.nd rfl (.inl rfl) (ae_callN d__law_names hr (by omega) hgd rfl (aa_cons (ae_var (pv 1)) (aa_cons ae_int aa_nil))))
      (ass_cons (as_set (i := 3) sc_law.nd rfl (.inl rfl) (ae_ix (ob_ix hu) (ae_lst (aa_cons (ae_lst (aa_cons ae_int (aa_cons ae_int (aa_cons ae_int (aa_cons ae_int aa_nil))))) (aa_cons (ae_lst (aa_cons ae_int (aa_cons ae_int (aa_cons ae_int (aa_cons ae_int aa_nil))))) (aa_cons (ae_lst aa_nil) aa_nil)))) (ae_callN d__law_draw hr (by omega) hgd rfl (aa_cons (ae_var (pv 1)) (aa_cons ae_int aa_nil)))))
      (ass_cons (as_set (i := 4) sc_law.nd rfl (.inl rfl) ae_int)
      (ass_cons (as_for PassesOwn.never rfl (ai_range1 rfl T.b_range ae_int) (ag_name (pg_name (i := 5) sc_law.nd rfl (.inl rfl)))
        (ass_one (as_set (i := 4) sc_law.nd rfl (.inl rfl) (ae_ix (ob_ix hu) (ae_lst (aa_cons (ae_tup (aa_cons (ae_var (pv 4)) (aa_cons (ae_tup aa_nil) aa_nil))) (aa_cons (ae_lst (aa_cons (ae_var (pv 4)) aa_nil)) (aa_cons (ae_tup (aa_cons ae_int (aa_cons (ae_var (pv 4)) aa_nil))) aa_nil)))) (ae_op ob_mod (ae_var (pv 5)) ae_int)))))
      (ass_cons (as_set (i := 6) sc_law.nd rfl (.inl rfl) (ae_lst (aa_cons ae_non (aa_cons ae_bl (aa_cons ae_bl (aa_cons ae_int (aa_cons (ae_un ub_neg ae_int) (aa_cons (ae_op ob_pow ae_int ae_int) (aa_cons ae_str (aa_cons ae_str (aa_cons ae_str (aa_cons ae_str (aa_cons ae_str (aa_cons ae_str (aa_cons ae_str (aa_cons ae_str (aa_cons (ae_tup aa_nil) (aa_cons (ae_lst aa_nil) (aa_cons ae_dnew aa_nil)))))))))))))))))))
      (ass_cons (as_set (i := 6) sc_law.nd rfl (.inl rfl) (ae_op ob_add (ae_var (pv 6)) (ae_lst (aa_cons (ae_var (pv 4)) (aa_cons (ae_tup (aa_cons ae_int (aa_cons ae_int aa_nil))) (aa_cons (ae_tup (aa_cons ae_int (aa_cons ae_int (aa_cons ae_int aa_nil)))) (aa_cons (ae_tup (aa_cons ae_str (aa_cons ae_int aa_nil))) (aa_cons (ae_tup (aa_cons ae_str (aa_cons (ae_un ub_neg ae_int) aa_nil))) (aa_cons (ae_tup (aa_cons ae_str (aa_cons ae_bl aa_nil))) (aa_cons (ae_tup (aa_cons ae_str (aa_cons ae_str aa_nil))) (aa_cons (ae_tup (aa_cons ae_str (aa_cons ae_str aa_nil))) (aa_cons (ae_disp1 ae_int ae_int) aa_nil))))))))))))
      (ass_cons (as_expr (ae_append (ae_var (pv 6)) (aa_cons (ae_tup (aa_cons (ae_tup (aa_cons ae_str (aa_cons ae_int aa_nil))) (aa_cons (ae_tup (aa_cons ae_str aa_nil)) aa_nil))) aa_nil)))
      (ass_cons (as_for PassesOwn.never rfl (ai_range1 rfl T.b_range ae_int) (ag_name (pg_name (i := 5) sc_law.nd rfl (.inl rfl)))
        (ass_cons (as_set (i := 7) sc_law.nd rfl (.inl rfl) (ae_callN d__law_any_term hr (by omega) hgd rfl (aa_cons (ae_var (pv 1)) (aa_cons (ae_var (pv 2)) (aa_cons (ae_var (pv 3)) aa_nil)))))
      (ass_cons (as_if (at_w (aw_or (at_cmp ob_isNot (ae_callN d_is_term hr (by omega) hgd rfl (aa_cons (ae_var (pv 7)) aa_nil)) ae_bl (nomark _)) (aw_or1 (at_cmp ob_isNot (ae_callN d_is_word hr (by omega) hgd rfl (aa_cons (ae_ix (ob_ix hu) (ae_var (pv 2)) (ae_op ob_mod (ae_var (pv 5)) ae_int)) aa_nil)) ae_bl (nomark _)))))
        (ass_one (as_ret ae_bl))
        ass_nil)
      (ass_cons (as_for PassesOwn.never rfl (ai_range1 rfl T.b_range ae_int) (ag_name (pg_name (i := 8) sc_law.nd rfl (.inl rfl)))
        (ass_cons (as_set (i := 9) sc_law.nd rfl (.inl rfl) (ae_callN d__law_draw hr (by omega) hgd rfl (aa_cons (ae_var (pv 1)) (aa_cons ae_int aa_nil))))
      (ass_cons (as_set (i := 10) sc_law.nd rfl (.inl rfl) (ae_callN d__law_bent hr (by omega) hgd rfl (aa_cons (ae_var (pv 1)) (aa_cons (ae_var (pv 7)) aa_nil))))
      (ass_cons (as_if (at_cmp (ob_eq hu) (ae_var (pv 9)) ae_int (nomark _))
        (ass_one (as_set (i := 10) sc_law.nd rfl (.inl rfl) (ae_callN d__law_bent hr (by omega) hgd rfl (aa_cons (ae_var (pv 1)) (aa_cons (ae_var (pv 10)) aa_nil)))))
        ass_nil)
      (ass_one (as_if (at_w (aw_or (at_not (at_val (ae_callN d__law_right hr (by omega) hgd rfl (aa_cons (ae_var (pv 10)) aa_nil)))) (aw_or1 (at_not (at_val (ae_callN d__law_right hr (by omega) hgd rfl (aa_cons (ae_callN d__law_bent hr (by omega) hgd rfl (aa_cons (ae_var (pv 1)) (aa_cons (ae_ix (ob_ix hu) (ae_var (pv 2)) (ae_op ob_mod (ae_var (pv 8)) ae_int)) aa_nil))) aa_nil)))))))
        (ass_one (as_ret ae_bl))
        ass_nil))))))
      (ass_one (as_if (at_not (at_val (ae_callN d__law_right hr (by omega) hgd rfl (aa_cons (ae_var (pv 7)) aa_nil))))
        (ass_one (as_ret ae_bl))
        ass_nil))))))
      (ass_cons (as_par3 (i := 11) (j := 12) (l := 13) rfl sc_law.nd rfl rfl rfl (by decide) (by decide) (by decide) rfl rfl rfl (aa_cons (ae_ix (ob_ix hu) (ae_var (pv 2)) ae_int) (aa_cons (ae_tup aa_nil) (aa_cons ae_int aa_nil))) rfl)
      (ass_cons (as_for PassesOwn.never rfl (ai_range1 rfl T.b_range ae_int) (ag_name (pg_name (i := 5) sc_law.nd rfl (.inl rfl)))
        (ass_cons (as_par (i := 12) (j := 13) rfl sc_law.nd rfl rfl (by decide) rfl rfl (aa_cons (ae_tup (aa_cons (ae_var (pv 5)) (aa_cons (ae_var (pv 12)) aa_nil))) (aa_cons (ae_tup (aa_cons (ae_var (pv 13)) (aa_cons (ae_tup aa_nil) aa_nil))) aa_nil)) rfl)
      (ass_one (as_if (at_cmp ob_lt (ae_var (pv 5)) ae_int (nomark _))
        (ass_one (as_set (i := 11) sc_law.nd rfl (.inl rfl) (ae_tup (aa_cons (ae_var (pv 11)) (aa_cons (ae_var (pv 11)) aa_nil)))))
        ass_nil))))
      (ass_cons (as_set (i := 6) sc_law.nd rfl (.inl rfl) (ae_op ob_add (ae_var (pv 6)) (ae_lst (aa_cons (ae_var (pv 11)) (aa_cons (ae_var (pv 12)) (aa_cons (ae_var (pv 13)) (aa_cons (ae_tup (aa_cons (ae_var (pv 11)) (aa_cons (ae_lst (aa_cons ae_int aa_nil)) aa_nil))) (aa_cons (ae_tup (aa_cons (ae_var (pv 11)) (aa_cons ae_str aa_nil))) (aa_cons (ae_tup (aa_cons ae_int (aa_cons (ae_var (pv 12)) aa_nil))) (aa_cons (ae_tup (aa_cons (ae_var (pv 13)) (aa_cons (ae_tup (aa_cons ae_str (aa_cons (ae_un ub_neg ae_int) aa_nil))) aa_nil))) (aa_cons (ae_tup (aa_cons (ae_var (pv 13)) (aa_cons (ae_tup (aa_cons ae_str (aa_cons ae_int aa_nil))) aa_nil))) aa_nil)))))))))))
      (ass_one (as_ret (ae_eqNil hu (ae_lc (own := [("_law_thing", 10)]) rfl sc_law.nd (ai_seq (ae_var (pv 6))) (blkOk_by (own := [("_law_thing", 10)]) (N := n_law) (sc := defScope s_law) (by decide +kernel)) (fun _ _ _ _ _ => (ag_name (pg_name (i := 10) sc_law.nd rfl (.inl rfl)))) (fun _ _ _ _ _ => (ats_one (at_not (at_val (ae_callN d__law_right hr (by omega) hgd rfl (aa_cons (ae_var (pv 10)) aa_nil)))))) (fun _ _ _ _ _ => (ae_var (pv 10))))))))))))))))))), rd⟩
end
end K01

namespace K01
open PySem PySem.Spec PyProof.Rows L2 Ab
def spDraw : ASp := fun xs m q => match xs with
  | [.ref d, .int M] => (∃ c, m d = some (.deck c)) ∧ 0 < M ∧ M < 1073741824 ∧ ∀ r : Int, 0 ≤ r → r < M → q (.int r) m
  | _ => False
variable {K : PySem.W.Frag}
theorem r__law_draw : Reads K n__law_draw (t__law_draw K) spDraw := by
  intro H xs m q h g
  unfold spDraw at h
  split at h
  · rename_i d M
    obtain ⟨⟨c, hd⟩, h0, h1, k⟩ := h
    obtain ⟨ns, z, n, l1, l2, l3, l4, ne, g1⟩ := deck_open g hd
    refine ⟨_, g1, ?_⟩
    rw [show startA n__law_draw [.ref d, .int M] = [some (.ref d), some (.int M), none, none, none] from rfl]
    have own := g.own
    have ne' : c ≠ d := Ne.symm ne
    have kept : ∀ o u b w, b ≠ d → b ≠ c → m b = some w → updA (updA m c o) d u b = some w := fun o u b w h1 h2 e => by rw [updA_ne h1, updA_ne h2, e]
    generalize hm1 : updA (updA m c (.lst (ns.map AV.int))) d (.lst [.ref c, .int z, .int n]) = m1
    have e1 : m1 d = some (.lst [.ref c, .int z, .int n]) := by rw [← hm1, updA_same]
    have e2 : m1 c = some (.lst (ns.map AV.int)) := by rw [← hm1, updA_ne ne', updA_same]
    have e3 : ∀ b o, b ≠ d → b ≠ c → m b = some o → m1 b = some o := fun b o h1 h2 e => by rw [← hm1, updA_ne h1, updA_ne h2, e]
    unfold t__law_draw
    refine seq_i ?_
    simp only [aNext, aAsg, aName, aVar, slot, put, aC, aOp, aUn, aTest, aChain, aAnd, aOr, aNot, aAndV, aOrV, aNotV, aIf, aNil, aCons, aTup, aLst, aCB, aBM, aSl, aPart, aNoPart, aDrop, aRet, aIfS, aPar, aAug, aSub, aUnp, aGNil, aGCons, aCall, aYes, aNilEq, aJoin, wRange1, wAny, wStr, wEnum, wEnumD, wKeys, wVals, wItems, lkAt, aLc, aDc, aDc2, aDNew, aRev, aSetd, aGet1, aGet2, isD, dAt, Ab.keyOf, wipeA, List.set_cons_zero, List.set_cons_succ, asStrs_map, bSub, bAdd, bIAdd, bNeg, bIx, bSl, bInt, bSet, bPop, bInsert, bAppend, bExtend, bML, bEqB, bIsB, bInB, one, bLen, bList, bTuple, bSum, bToInt, bIsi, bRepr, bDict, bSorted, bMax, bAny, bAll, asBls_map, bMulL, aDispF, aSortSet, aListVals, aCallK, tyA, at0, at1, at2, at3, ixL0, ixL1, ixL2, set0, set1, set2, updA_same, updA_twice, List.append_nil, List.cons_append, List.nil_append, id_eq, e1]
    refine seq_n ?_
    simp only [aNext, aAsg, aName, aVar, slot, put, aC, aOp, aUn, aTest, aChain, aAnd, aOr, aNot, aAndV, aOrV, aNotV, aIf, aNil, aCons, aTup, aLst, aCB, aBM, aSl, aPart, aNoPart, aDrop, aRet, aIfS, aPar, aAug, aSub, aUnp, aGNil, aGCons, aCall, aYes, aNilEq, aJoin, wRange1, wAny, wStr, wEnum, wEnumD, wKeys, wVals, wItems, lkAt, aLc, aDc, aDc2, aDNew, aRev, aSetd, aGet1, aGet2, isD, dAt, Ab.keyOf, wipeA, List.set_cons_zero, List.set_cons_succ, asStrs_map, bSub, bAdd, bIAdd, bNeg, bIx, bSl, bInt, bSet, bPop, bInsert, bAppend, bExtend, bML, bEqB, bIsB, bInB, one, bLen, bList, bTuple, bSum, bToInt, bIsi, bRepr, bDict, bSorted, bMax, bAny, bAll, asBls_map, bMulL, aDispF, aSortSet, aListVals, aCallK, tyA, at0, at1, at2, at3, ixL0, ixL1, ixL2, set0, set1, set2, updA_same, updA_twice, List.append_nil, List.cons_append, List.nil_append, id_eq]
    refine seq_n ?_
    simp only [aNext, aAsg, aName, aVar, slot, put, aC, aOp, aUn, aTest, aChain, aAnd, aOr, aNot, aAndV, aOrV, aNotV, aIf, aNil, aCons, aTup, aLst, aCB, aBM, aSl, aPart, aNoPart, aDrop, aRet, aIfS, aPar, aAug, aSub, aUnp, aGNil, aGCons, aCall, aYes, aNilEq, aJoin, wRange1, wAny, wStr, wEnum, wEnumD, wKeys, wVals, wItems, lkAt, aLc, aDc, aDc2, aDNew, aRev, aSetd, aGet1, aGet2, isD, dAt, Ab.keyOf, wipeA, List.set_cons_zero, List.set_cons_succ, asStrs_map, bSub, bAdd, bIAdd, bNeg, bIx, bSl, bInt, bSet, bPop, bInsert, bAppend, bExtend, bML, bEqB, bIsB, bInB, one, bLen, bList, bTuple, bSum, bToInt, bIsi, bRepr, bDict, bSorted, bMax, bAny, bAll, asBls_map, bMulL, aDispF, aSortSet, aListVals, aCallK, tyA, at0, at1, at2, at3, ixL0, ixL1, ixL2, set0, set1, set2, updA_same, updA_twice, List.append_nil, List.cons_append, List.nil_append, id_eq]
    refine .keep ?_
    refine seq_join (fun a' m' => ∃ (ns' : List Int) (cell : Int), a' = [some (.ref d), some (.int M), some (.ref c), some (.int cell), none] ∧ m' d = some (.lst [.ref c, .int z, .int (n + 1)]) ∧ m' c = some (.lst (ns'.map AV.int)) ∧ ns'.length ≤ 63 ∧
      ∀ b o, b ≠ d → b ≠ c → m b = some o → m' b = some o) ?_ ?_
    · rintro _ m2 ⟨ns', cell, rfl, f1, f2, f3, f4⟩
      refine seq_i ?_
      simp only [aNext, aAsg, aName, aVar, slot, put, aC, aOp, aUn, aTest, aChain, aAnd, aOr, aNot, aAndV, aOrV, aNotV, aIf, aNil, aCons, aTup, aLst, aCB, aBM, aSl, aPart, aNoPart, aDrop, aRet, aIfS, aPar, aAug, aSub, aUnp, aGNil, aGCons, aCall, aYes, aNilEq, aJoin, wRange1, wAny, wStr, wEnum, wEnumD, wKeys, wVals, wItems, lkAt, aLc, aDc, aDc2, aDNew, aRev, aSetd, aGet1, aGet2, isD, dAt, Ab.keyOf, wipeA, List.set_cons_zero, List.set_cons_succ, asStrs_map, bSub, bAdd, bIAdd, bNeg, bIx, bSl, bInt, bSet, bPop, bInsert, bAppend, bExtend, bML, bEqB, bIsB, bInB, one, bLen, bList, bTuple, bSum, bToInt, bIsi, bRepr, bDict, bSorted, bMax, bAny, bAll, asBls_map, bMulL, aDispF, aSortSet, aListVals, aCallK, tyA, at0, at1, at2, at3, ixL0, ixL1, ixL2, set0, set1, set2, updA_same, updA_twice, List.append_nil, List.cons_append, List.nil_append, id_eq, f1]
      have b0 := Int.emod_nonneg cell (b := 2147483629) (by decide)
      have b1 := Int.emod_lt_of_pos cell (b := 2147483629) (by decide)
      refine ⟨by decide, .inr (by decide), .inl (by decide), by decide, ?_⟩
      generalize hx : (cell % 2147483629 * 48271 + 6997 * (n + 1) + 17) % 2147483647 = x
      have b2 : 0 ≤ x := by rw [← hx]; exact Int.emod_nonneg _ (by decide)
      have b3 : x < 2147483647 := by rw [← hx]; exact Int.emod_lt_of_pos _ (by decide)
      refine seq_n ?_
      simp only [aNext, aAsg, aName, aVar, slot, put, aC, aOp, aUn, aTest, aChain, aAnd, aOr, aNot, aAndV, aOrV, aNotV, aIf, aNil, aCons, aTup, aLst, aCB, aBM, aSl, aPart, aNoPart, aDrop, aRet, aIfS, aPar, aAug, aSub, aUnp, aGNil, aGCons, aCall, aYes, aNilEq, aJoin, wRange1, wAny, wStr, wEnum, wEnumD, wKeys, wVals, wItems, lkAt, aLc, aDc, aDc2, aDNew, aRev, aSetd, aGet1, aGet2, isD, dAt, Ab.keyOf, wipeA, List.set_cons_zero, List.set_cons_succ, asStrs_map, bSub, bAdd, bIAdd, bNeg, bIx, bSl, bInt, bSet, bPop, bInsert, bAppend, bExtend, bML, bEqB, bIsB, bInB, one, bLen, bList, bTuple, bSum, bToInt, bIsi, bRepr, bDict, bSorted, bMax, bAny, bAll, asBls_map, bMulL, aDispF, aSortSet, aListVals, aCallK, tyA, at0, at1, at2, at3, ixL0, ixL1, ixL2, set0, set1, set2, updA_same, updA_twice, List.append_nil, List.cons_append, List.nil_append, id_eq, f1]
      refine ⟨.inl (by omega), .inl (by omega), by decide, ?_⟩
      generalize hy : (x * x + 69621 * x + (n + 1)) % 2147483587 = y
      have b4 : 0 ≤ y := by rw [← hy]; exact Int.emod_nonneg _ (by decide)
      have b5 : y < 2147483587 := by rw [← hy]; exact Int.emod_lt_of_pos _ (by decide)
      refine seq_n ?_
      simp only [aNext, aAsg, aName, aVar, slot, put, aC, aOp, aUn, aTest, aChain, aAnd, aOr, aNot, aAndV, aOrV, aNotV, aIf, aNil, aCons, aTup, aLst, aCB, aBM, aSl, aPart, aNoPart, aDrop, aRet, aIfS, aPar, aAug, aSub, aUnp, aGNil, aGCons, aCall, aYes, aNilEq, aJoin, wRange1, wAny, wStr, wEnum, wEnumD, wKeys, wVals, wItems, lkAt, aLc, aDc, aDc2, aDNew, aRev, aSetd, aGet1, aGet2, isD, dAt, Ab.keyOf, wipeA, List.set_cons_zero, List.set_cons_succ, asStrs_map, bSub, bAdd, bIAdd, bNeg, bIx, bSl, bInt, bSet, bPop, bInsert, bAppend, bExtend, bML, bEqB, bIsB, bInB, one, bLen, bList, bTuple, bSum, bToInt, bIsi, bRepr, bDict, bSorted, bMax, bAny, bAll, asBls_map, bMulL, aDispF, aSortSet, aListVals, aCallK, tyA, at0, at1, at2, at3, ixL0, ixL1, ixL2, set0, set1, set2, updA_same, updA_twice, List.append_nil, List.cons_append, List.nil_append, id_eq, f1]
      refine .keep ?_
      simp only [aNext, aAsg, aName, aVar, slot, put, aC, aOp, aUn, aTest, aChain, aAnd, aOr, aNot, aAndV, aOrV, aNotV, aIf, aNil, aCons, aTup, aLst, aCB, aBM, aSl, aPart, aNoPart, aDrop, aRet, aIfS, aPar, aAug, aSub, aUnp, aGNil, aGCons, aCall, aYes, aNilEq, aJoin, wRange1, wAny, wStr, wEnum, wEnumD, wKeys, wVals, wItems, lkAt, aLc, aDc, aDc2, aDNew, aRev, aSetd, aGet1, aGet2, isD, dAt, Ab.keyOf, wipeA, List.set_cons_zero, List.set_cons_succ, asStrs_map, bSub, bAdd, bIAdd, bNeg, bIx, bSl, bInt, bSet, bPop, bInsert, bAppend, bExtend, bML, bEqB, bIsB, bInB, one, bLen, bList, bTuple, bSum, bToInt, bIsi, bRepr, bDict, bSorted, bMax, bAny, bAll, asBls_map, bMulL, aDispF, aSortSet, aListVals, aCallK, tyA, at0, at1, at2, at3, ixL0, ixL1, ixL2, set0, set1, set2, updA_same, updA_twice, List.append_nil, List.cons_append, List.nil_append, id_eq, f1]
      refine ⟨.inl (by omega), by decide, ⟨by decide, by decide⟩, h0, ?_⟩
      refine ⟨m, fun H z => deck_back z own hd (fun b o n1 n2 e => ?_) (z := y) (n := n + 1) (ns := ns') ?_ ?_ f3 b4 (by omega) (by omega), k _ (Int.emod_nonneg _ (by omega)) (Int.emod_lt_of_pos _ h0)⟩
      · rw [updA_ne n1]; exact f4 b o n1 n2 e
      · exact updA_same
      · rw [updA_ne ne']; exact f2
    · intro n2 hn2
      simp only [aNext, aAsg, aName, aVar, slot, put, aC, aOp, aUn, aTest, aChain, aAnd, aOr, aNot, aAndV, aOrV, aNotV, aIf, aNil, aCons, aTup, aLst, aCB, aBM, aSl, aPart, aNoPart, aDrop, aRet, aIfS, aPar, aAug, aSub, aUnp, aGNil, aGCons, aCall, aYes, aNilEq, aJoin, wRange1, wAny, wStr, wEnum, wEnumD, wKeys, wVals, wItems, lkAt, aLc, aDc, aDc2, aDNew, aRev, aSetd, aGet1, aGet2, isD, dAt, Ab.keyOf, wipeA, List.set_cons_zero, List.set_cons_succ, asStrs_map, bSub, bAdd, bIAdd, bNeg, bIx, bSl, bInt, bSet, bPop, bInsert, bAppend, bExtend, bML, bEqB, bIsB, bInB, one, bLen, bList, bTuple, bSum, bToInt, bIsi, bRepr, bDict, bSorted, bMax, bAny, bAll, asBls_map, bMulL, aDispF, aSortSet, aListVals, aCallK, tyA, at0, at1, at2, at3, ixL0, ixL1, ixL2, set0, set1, set2, updA_same, updA_twice, List.append_nil, List.cons_append, List.nil_append, id_eq, updA_ne ne', e2]
      cases ns with
      | nil =>
        refine hn2 _ _ (.keep ⟨[], z, rfl, updA_same, ?_, by decide, fun b o n1 n2 e => ?_⟩)
        · rw [updA_ne ne']; exact e2
        · rw [updA_ne n1]; exact e3 b o n1 n2 e
      | cons x ns =>
        simp only [List.map_cons, List.isEmpty_cons, Bool.not_false, if_true]
        refine seq_i ?_
        simp only [aNext, aAsg, aName, aVar, slot, put, aC, aOp, aUn, aTest, aChain, aAnd, aOr, aNot, aAndV, aOrV, aNotV, aIf, aNil, aCons, aTup, aLst, aCB, aBM, aSl, aPart, aNoPart, aDrop, aRet, aIfS, aPar, aAug, aSub, aUnp, aGNil, aGCons, aCall, aYes, aNilEq, aJoin, wRange1, wAny, wStr, wEnum, wEnumD, wKeys, wVals, wItems, lkAt, aLc, aDc, aDc2, aDNew, aRev, aSetd, aGet1, aGet2, isD, dAt, Ab.keyOf, wipeA, List.set_cons_zero, List.set_cons_succ, asStrs_map, bSub, bAdd, bIAdd, bNeg, bIx, bSl, bInt, bSet, bPop, bInsert, bAppend, bExtend, bML, bEqB, bIsB, bInB, one, bLen, bList, bTuple, bSum, bToInt, bIsi, bRepr, bDict, bSorted, bMax, bAny, bAll, asBls_map, bMulL, aDispF, aSortSet, aListVals, aCallK, tyA, at0, at1, at2, at3, ixL0, ixL1, ixL2, set0, set1, set2, updA_same, updA_twice, List.append_nil, List.cons_append, List.nil_append, id_eq, updA_ne ne', e2, List.map_cons, List.getElem?_cons_zero, List.eraseIdx_cons_zero]
        refine ⟨⟨_, _, rfl, by rw [updA_ne ne', e2]⟩, by decide, by decide, .keep ?_⟩
        have f1 : updA (updA m1 d (.lst [.ref c, .int z, .int (n + 1)])) c (.lst (ns.map AV.int)) d = some (.lst [.ref c, .int z, .int (n + 1)]) := by rw [updA_ne ne, updA_same]
        have f2 : updA (updA m1 d (.lst [.ref c, .int z, .int (n + 1)])) c (.lst (ns.map AV.int)) c = some (.lst (ns.map AV.int)) := updA_same
        have f4 : ∀ b o, b ≠ d → b ≠ c → m b = some o → updA (updA m1 d (.lst [.ref c, .int z, .int (n + 1)])) c (.lst (ns.map AV.int)) b = some o := fun b o n1 n2 e => by rw [updA_ne n2, updA_ne n1]; exact e3 b o n1 n2 e
        revert f1 f2 f4
        generalize updA (updA m1 d (.lst [.ref c, .int z, .int (n + 1)])) c (.lst (ns.map AV.int)) = m3
        intro f1 f2 f4
        have hl : ns.length ≤ 62 := by simpa using l1
        refine seq_i ?_
        simp only [aNext, aAsg, aName, aVar, slot, put, aC, aOp, aUn, aTest, aChain, aAnd, aOr, aNot, aAndV, aOrV, aNotV, aIf, aNil, aCons, aTup, aLst, aCB, aBM, aSl, aPart, aNoPart, aDrop, aRet, aIfS, aPar, aAug, aSub, aUnp, aGNil, aGCons, aCall, aYes, aNilEq, aJoin, wRange1, wAny, wStr, wEnum, wEnumD, wKeys, wVals, wItems, lkAt, aLc, aDc, aDc2, aDNew, aRev, aSetd, aGet1, aGet2, isD, dAt, Ab.keyOf, wipeA, List.set_cons_zero, List.set_cons_succ, asStrs_map, bSub, bAdd, bIAdd, bNeg, bIx, bSl, bInt, bSet, bPop, bInsert, bAppend, bExtend, bML, bEqB, bIsB, bInB, one, bLen, bList, bTuple, bSum, bToInt, bIsi, bRepr, bDict, bSorted, bMax, bAny, bAll, asBls_map, bMulL, aDispF, aSortSet, aListVals, aCallK, tyA, at0, at1, at2, at3, ixL0, ixL1, ixL2, set0, set1, set2, updA_same, updA_twice, List.append_nil, List.cons_append, List.nil_append, id_eq]
        refine ⟨⟨by decide, by decide, by decide⟩, trivial, ?_⟩
        by_cases hx : (10 : Int) ^ (18 : Int).toNat ≤ x
        · rw [if_pos (by simpa using hx)]
          refine seq_i ?_
          simp only [aNext, aAsg, aName, aVar, slot, put, aC, aOp, aUn, aTest, aChain, aAnd, aOr, aNot, aAndV, aOrV, aNotV, aIf, aNil, aCons, aTup, aLst, aCB, aBM, aSl, aPart, aNoPart, aDrop, aRet, aIfS, aPar, aAug, aSub, aUnp, aGNil, aGCons, aCall, aYes, aNilEq, aJoin, wRange1, wAny, wStr, wEnum, wEnumD, wKeys, wVals, wItems, lkAt, aLc, aDc, aDc2, aDNew, aRev, aSetd, aGet1, aGet2, isD, dAt, Ab.keyOf, wipeA, List.set_cons_zero, List.set_cons_succ, asStrs_map, bSub, bAdd, bIAdd, bNeg, bIx, bSl, bInt, bSet, bPop, bInsert, bAppend, bExtend, bML, bEqB, bIsB, bInB, one, bLen, bList, bTuple, bSum, bToInt, bIsi, bRepr, bDict, bSorted, bMax, bAny, bAll, asBls_map, bMulL, aDispF, aSortSet, aListVals, aCallK, tyA, at0, at1, at2, at3, ixL0, ixL1, ixL2, set0, set1, set2, updA_same, updA_twice, List.append_nil, List.cons_append, List.nil_append, id_eq, f2, Int.toNat_zero, List.take_zero, List.drop_zero, List.length_map]
          refine ⟨⟨_, _, rfl, f2⟩, ⟨h0, h1⟩, by unfold sizeLine; omega, by decide, by decide, .keep ⟨h0, ⟨m, fun H z => deck_back z own hd (fun b o n1 n2 e => ?_) (z := _) (n := n + 1) (ns := x / M :: ns) ?_ ?_ ?_ l2 l3 (by omega), k _ (Int.emod_nonneg _ (by omega)) (Int.emod_lt_of_pos _ h0)⟩⟩⟩
          · rw [updA_ne n2]; exact f4 b o n1 n2 e
          · rw [updA_ne ne]; exact f1
          · exact updA_same
          · simp only [List.length_cons]; omega
        · rw [if_neg (by simpa using hx)]
          refine .keep ?_
          simp only [aNext, aAsg, aName, aVar, slot, put, aC, aOp, aUn, aTest, aChain, aAnd, aOr, aNot, aAndV, aOrV, aNotV, aIf, aNil, aCons, aTup, aLst, aCB, aBM, aSl, aPart, aNoPart, aDrop, aRet, aIfS, aPar, aAug, aSub, aUnp, aGNil, aGCons, aCall, aYes, aNilEq, aJoin, wRange1, wAny, wStr, wEnum, wEnumD, wKeys, wVals, wItems, lkAt, aLc, aDc, aDc2, aDNew, aRev, aSetd, aGet1, aGet2, isD, dAt, Ab.keyOf, wipeA, List.set_cons_zero, List.set_cons_succ, asStrs_map, bSub, bAdd, bIAdd, bNeg, bIx, bSl, bInt, bSet, bPop, bInsert, bAppend, bExtend, bML, bEqB, bIsB, bInB, one, bLen, bList, bTuple, bSum, bToInt, bIsi, bRepr, bDict, bSorted, bMax, bAny, bAll, asBls_map, bMulL, aDispF, aSortSet, aListVals, aCallK, tyA, at0, at1, at2, at3, ixL0, ixL1, ixL2, set0, set1, set2, updA_same, updA_twice, List.append_nil, List.cons_append, List.nil_append, id_eq, f1]
          exact hn2 _ _ (.keep ⟨ns, x + z, rfl, f1, f2, by omega, f4⟩)
  · exact h.elim
end K01

namespace K01
open PySem PySem.Spec PyProof.Rows L2 Ab
variable {K : PySem.W.Frag}
def spDeck : ASp := fun xs m q => match xs with
  | [.scr _] => Own m ∧ ∀ d c, m d = none → m c = none → d ≠ c → q (.ref d) (updA (updA m c (.hid d)) d (.deck c))
  | _ => False
theorem r__law_deck : Reads K n__law_deck (t__law_deck K) spDeck := by
  intro H xs m q h g
  unfold spDeck at h
  split at h
  · rename_i ns
    obtain ⟨w, k⟩ := h
    refine ⟨_, g, ?_⟩
    rw [show startA n__law_deck [.scr ns] = [some (.scr ns), none] from rfl]
    unfold t__law_deck
    refine seq_i ?_
    simp only [aNext, aAsg, aName, aVar, slot, put, aC, aOp, aUn, aTest, aChain, aAnd, aOr, aNot, aAndV, aOrV, aNotV, aIf, aNil, aCons, aTup, aLst, aCB, aBM, aSl, aPart, aNoPart, aDrop, aRet, aIfS, aPar, aAug, aSub, aUnp, aGNil, aGCons, aCall, aYes, aNilEq, aJoin, wRange1, wAny, wStr, wEnum, wEnumD, wKeys, wVals, wItems, lkAt, aLc, aDc, aDc2, aDNew, aRev, aSetd, aGet1, aGet2, isD, dAt, Ab.keyOf, wipeA, List.set_cons_zero, List.set_cons_succ, asStrs_map, bSub, bAdd, bIAdd, bNeg, bIx, bSl, bInt, bSet, bPop, bInsert, bAppend, bExtend, bML, bEqB, bIsB, bInB, one, bLen, bList, bTuple, bSum, bToInt, bIsi, bRepr, bDict, bSorted, bMax, bAny, bAll, asBls_map, bMulL, aDispF, aSortSet, aListVals, aCallK, tyA, at0, at1, at2, at3, ixL0, ixL1, ixL2, set0, set1, set2, updA_same, updA_twice, List.append_nil, List.cons_append, List.nil_append, id_eq, cutA_G, cutG_to (show (0 : Int) ≤ 63 by decide), map_take]
    intro p hp c hc
    refine .keep ?_
    simp only [aNext, aAsg, aName, aVar, slot, put, aC, aOp, aUn, aTest, aChain, aAnd, aOr, aNot, aAndV, aOrV, aNotV, aIf, aNil, aCons, aTup, aLst, aCB, aBM, aSl, aPart, aNoPart, aDrop, aRet, aIfS, aPar, aAug, aSub, aUnp, aGNil, aGCons, aCall, aYes, aNilEq, aJoin, wRange1, wAny, wStr, wEnum, wEnumD, wKeys, wVals, wItems, lkAt, aLc, aDc, aDc2, aDNew, aRev, aSetd, aGet1, aGet2, isD, dAt, Ab.keyOf, wipeA, List.set_cons_zero, List.set_cons_succ, asStrs_map, bSub, bAdd, bIAdd, bNeg, bIx, bSl, bInt, bSet, bPop, bInsert, bAppend, bExtend, bML, bEqB, bIsB, bInB, one, bLen, bList, bTuple, bSum, bToInt, bIsi, bRepr, bDict, bSorted, bMax, bAny, bAll, asBls_map, bMulL, aDispF, aSortSet, aListVals, aCallK, tyA, at0, at1, at2, at3, ixL0, ixL1, ixL2, set0, set1, set2, updA_same, updA_twice, List.append_nil, List.cons_append, List.nil_append, id_eq, asInts_map]
    have hp2 : m c = none := (Sub.refl.alloc hp (o := .lst (ns.take (Int.toNat 63) |>.map .int))).none hc
    refine ⟨by decide, sz (by simp), fun d hd => ?_⟩
    have ne : d ≠ c := fun e => by rw [e, updA_same] at hd; cases hd
    have np : c ≠ p := fun e => by rw [e, updA_same] at hc; cases hc
    have nd : d ≠ p := fun e => by rw [updA_ne ne, e, updA_same] at hd; cases hd
    have hd2 : m d = none := by rwa [updA_ne ne, updA_ne nd] at hd
    refine ⟨_, fun H z => deck_new z w ?_ hd2 hp2 ne (ns := ns.take 63) (z := _) (n := 0) updA_same ?_ ?_ ?_ ?_ (by decide), k d c hd2 hp2 ne⟩
    · exact ((Sub.refl.new hp).new hp2).new hd2
    · rw [updA_ne (Ne.symm ne), updA_same]; rfl
    · rw [List.length_take]; omega
    · have := Int.emod_nonneg (ns.take (Int.toNat 63)).sum (b := 2147483579) (by decide)
      omega
    · have := Int.emod_lt_of_pos (ns.take (Int.toNat 63)).sum (b := 2147483579) (by decide)
      omega
  · exact h.elim
def spNames : ASp := fun xs m q => match xs with
  | [.ref d, .int n] => Own m ∧ (∃ c, m d = some (.deck c)) ∧ 0 ≤ n ∧ n ≤ 8 ∧ ∀ ws : List Str, (ws.length : Int) = n → (∀ w ∈ ws, Word w) → ∀ p, m p = none → q (.ref p) (updA m p (.lst (ws.map .str)))
  | _ => False
theorem r__law_names : Reads K n__law_names (t__law_names K spDraw) spNames := by
  intro H xs m q h g
  unfold spNames at h
  split at h
  · rename_i d n
    obtain ⟨w, ⟨c, hd⟩, h0, h8, k⟩ := h
    refine ⟨_, g, ?_⟩
    rw [show startA n__law_names [.ref d, .int n] = [some (.ref d), some (.int n), none, none, none, none, none, none, none, none] from rfl]
    unfold t__law_names
    refine seq_i ?_
    simp only [aNext, aAsg, aName, aVar, slot, put, aC, aOp, aUn, aTest, aChain, aAnd, aOr, aNot, aAndV, aOrV, aNotV, aIf, aNil, aCons, aTup, aLst, aCB, aBM, aSl, aPart, aNoPart, aDrop, aRet, aIfS, aPar, aAug, aSub, aUnp, aGNil, aGCons, aCall, aYes, aNilEq, aJoin, wRange1, wAny, wStr, wEnum, wEnumD, wKeys, wVals, wItems, lkAt, aLc, aDc, aDc2, aDNew, aRev, aSetd, aGet1, aGet2, isD, dAt, Ab.keyOf, wipeA, List.set_cons_zero, List.set_cons_succ, asStrs_map, bSub, bAdd, bIAdd, bNeg, bIx, bSl, bInt, bSet, bPop, bInsert, bAppend, bExtend, bML, bEqB, bIsB, bInB, one, bLen, bList, bTuple, bSum, bToInt, bIsi, bRepr, bDict, bSorted, bMax, bAny, bAll, asBls_map, bMulL, aDispF, aSortSet, aListVals, aCallK, tyA, at0, at1, at2, at3, ixL0, ixL1, ixL2, set0, set1, set2, updA_same, updA_twice, List.append_nil, List.cons_append, List.nil_append, id_eq]
    refine seq_n ?_
    simp only [aNext, aAsg, aName, aVar, slot, put, aC, aOp, aUn, aTest, aChain, aAnd, aOr, aNot, aAndV, aOrV, aNotV, aIf, aNil, aCons, aTup, aLst, aCB, aBM, aSl, aPart, aNoPart, aDrop, aRet, aIfS, aPar, aAug, aSub, aUnp, aGNil, aGCons, aCall, aYes, aNilEq, aJoin, wRange1, wAny, wStr, wEnum, wEnumD, wKeys, wVals, wItems, lkAt, aLc, aDc, aDc2, aDNew, aRev, aSetd, aGet1, aGet2, isD, dAt, Ab.keyOf, wipeA, List.set_cons_zero, List.set_cons_succ, asStrs_map, bSub, bAdd, bIAdd, bNeg, bIx, bSl, bInt, bSet, bPop, bInsert, bAppend, bExtend, bML, bEqB, bIsB, bInB, one, bLen, bList, bTuple, bSum, bToInt, bIsi, bRepr, bDict, bSorted, bMax, bAny, bAll, asBls_map, bMulL, aDispF, aSortSet, aListVals, aCallK, tyA, at0, at1, at2, at3, ixL0, ixL1, ixL2, set0, set1, set2, updA_same, updA_twice, List.append_nil, List.cons_append, List.nil_append, id_eq]
    refine ⟨by decide, fun p hp => ?_⟩
    have hd1 := updA_keep (o := .lst [.str "same", .str "both", .str "call", .str "either", .str "fresh", .str "unlike", .str "number", .str "word", .str "absent", .str "x", .str "put", .str "go"]) hp hd
    refine seq_n ?_
    simp only [aNext, aAsg, aName, aVar, slot, put, aC, aOp, aUn, aTest, aChain, aAnd, aOr, aNot, aAndV, aOrV, aNotV, aIf, aNil, aCons, aTup, aLst, aCB, aBM, aSl, aPart, aNoPart, aDrop, aRet, aIfS, aPar, aAug, aSub, aUnp, aGNil, aGCons, aCall, aYes, aNilEq, aJoin, wRange1, wAny, wStr, wEnum, wEnumD, wKeys, wVals, wItems, lkAt, aLc, aDc, aDc2, aDNew, aRev, aSetd, aGet1, aGet2, isD, dAt, Ab.keyOf, wipeA, List.set_cons_zero, List.set_cons_succ, asStrs_map, bSub, bAdd, bIAdd, bNeg, bIx, bSl, bInt, bSet, bPop, bInsert, bAppend, bExtend, bML, bEqB, bIsB, bInB, one, bLen, bList, bTuple, bSum, bToInt, bIsi, bRepr, bDict, bSorted, bMax, bAny, bAll, asBls_map, bMulL, aDispF, aSortSet, aListVals, aCallK, tyA, at0, at1, at2, at3, ixL0, ixL1, ixL2, set0, set1, set2, updA_same, updA_twice, List.append_nil, List.cons_append, List.nil_append, id_eq, spDraw]
    refine ⟨⟨c, hd1⟩, by decide, by decide, fun mode a0 a1 => ?_⟩
    refine seq_n ?_
    simp only [aNext, aAsg, aName, aVar, slot, put, aC, aOp, aUn, aTest, aChain, aAnd, aOr, aNot, aAndV, aOrV, aNotV, aIf, aNil, aCons, aTup, aLst, aCB, aBM, aSl, aPart, aNoPart, aDrop, aRet, aIfS, aPar, aAug, aSub, aUnp, aGNil, aGCons, aCall, aYes, aNilEq, aJoin, wRange1, wAny, wStr, wEnum, wEnumD, wKeys, wVals, wItems, lkAt, aLc, aDc, aDc2, aDNew, aRev, aSetd, aGet1, aGet2, isD, dAt, Ab.keyOf, wipeA, List.set_cons_zero, List.set_cons_succ, asStrs_map, bSub, bAdd, bIAdd, bNeg, bIx, bSl, bInt, bSet, bPop, bInsert, bAppend, bExtend, bML, bEqB, bIsB, bInB, one, bLen, bList, bTuple, bSum, bToInt, bIsi, bRepr, bDict, bSorted, bMax, bAny, bAll, asBls_map, bMulL, aDispF, aSortSet, aListVals, aCallK, tyA, at0, at1, at2, at3, ixL0, ixL1, ixL2, set0, set1, set2, updA_same, updA_twice, List.append_nil, List.cons_append, List.nil_append, id_eq, spDraw]
    refine ⟨⟨c, hd1⟩, by decide, by decide, fun turn b0 b1 => ?_⟩
    refine seq_n ?_
    simp only [aNext, aAsg, aName, aVar, slot, put, aC, aOp, aUn, aTest, aChain, aAnd, aOr, aNot, aAndV, aOrV, aNotV, aIf, aNil, aCons, aTup, aLst, aCB, aBM, aSl, aPart, aNoPart, aDrop, aRet, aIfS, aPar, aAug, aSub, aUnp, aGNil, aGCons, aCall, aYes, aNilEq, aJoin, wRange1, wAny, wStr, wEnum, wEnumD, wKeys, wVals, wItems, lkAt, aLc, aDc, aDc2, aDNew, aRev, aSetd, aGet1, aGet2, isD, dAt, Ab.keyOf, wipeA, List.set_cons_zero, List.set_cons_succ, asStrs_map, bSub, bAdd, bIAdd, bNeg, bIx, bSl, bInt, bSet, bPop, bInsert, bAppend, bExtend, bML, bEqB, bIsB, bInB, one, bLen, bList, bTuple, bSum, bToInt, bIsi, bRepr, bDict, bSorted, bMax, bAny, bAll, asBls_map, bMulL, aDispF, aSortSet, aListVals, aCallK, tyA, at0, at1, at2, at3, ixL0, ixL1, ixL2, set0, set1, set2, updA_same, updA_twice, List.append_nil, List.cons_append, List.nil_append, id_eq, spDraw]
    generalize hm2 : updA m p _ = m2 at hd1 ⊢
    refine ⟨by decide, by decide, fun D hD => ?_⟩
    refine lc_map0 (fun i : Nat => AV.str ⟨#[i]⟩) (fun i => 97 ≤ i ∧ i ≤ 122) (fun _ => trivial) _ (fun x hx acc k2 hk => ?_) (by rw [upto_len]; decide) (fun cs hl hcs => ?_)
    · simp only [aNext, aAsg, aName, aVar, slot, put, aC, aOp, aUn, aTest, aChain, aAnd, aOr, aNot, aAndV, aOrV, aNotV, aIf, aNil, aCons, aTup, aLst, aCB, aBM, aSl, aPart, aNoPart, aDrop, aRet, aIfS, aPar, aAug, aSub, aUnp, aGNil, aGCons, aCall, aYes, aNilEq, aJoin, wRange1, wAny, wStr, wEnum, wEnumD, wKeys, wVals, wItems, lkAt, aLc, aDc, aDc2, aDNew, aRev, aSetd, aGet1, aGet2, isD, dAt, Ab.keyOf, wipeA, List.set_cons_zero, List.set_cons_succ, asStrs_map, bSub, bAdd, bIAdd, bNeg, bIx, bSl, bInt, bSet, bPop, bInsert, bAppend, bExtend, bML, bEqB, bIsB, bInB, one, bLen, bList, bTuple, bSum, bToInt, bIsi, bRepr, bDict, bSorted, bMax, bAny, bAll, asBls_map, bMulL, aDispF, aSortSet, aListVals, aCallK, tyA, at0, at1, at2, at3, ixL0, ixL1, ixL2, set0, set1, set2, updA_same, updA_twice, List.append_nil, List.cons_append, List.nil_append, id_eq, spDraw]
      refine ⟨⟨c, updA_keep hD hd1⟩, by decide, by decide, fun i i0 i1 => ?_⟩
      obtain ⟨x, e, hx⟩ := at_lt (xs := (Str.ofString "abcdefghijklmnopqrstuvwxyz").cps.toList) i0 i1
      simp only [e]
      refine ⟨by decide, .keep (hk x ?_)⟩
      exact letters_ok x hx
    have hD1 := updA_keep (o := .lst (cs.map fun i => AV.str ⟨#[i]⟩)) hD hd1
    simp only [aNext, aAsg, aName, aVar, slot, put, aC, aOp, aUn, aTest, aChain, aAnd, aOr, aNot, aAndV, aOrV, aNotV, aIf, aNil, aCons, aTup, aLst, aCB, aBM, aSl, aPart, aNoPart, aDrop, aRet, aIfS, aPar, aAug, aSub, aUnp, aGNil, aGCons, aCall, aYes, aNilEq, aJoin, wRange1, wAny, wStr, wEnum, wEnumD, wKeys, wVals, wItems, lkAt, aLc, aDc, aDc2, aDNew, aRev, aSetd, aGet1, aGet2, isD, dAt, Ab.keyOf, wipeA, List.set_cons_zero, List.set_cons_succ, asStrs_map, bSub, bAdd, bIAdd, bNeg, bIx, bSl, bInt, bSet, bPop, bInsert, bAppend, bExtend, bML, bEqB, bIsB, bInB, one, bLen, bList, bTuple, bSum, bToInt, bIsi, bRepr, bDict, bSorted, bMax, bAny, bAll, asBls_map, bMulL, aDispF, aSortSet, aListVals, aCallK, tyA, at0, at1, at2, at3, ixL0, ixL1, ixL2, set0, set1, set2, updA_same, updA_twice, List.append_nil, List.cons_append, List.nil_append, id_eq, map_strs cs, join_chars]
    have hl : cs.length = 8 := hl.trans (upto_len _)
    refine ⟨?_, ?_⟩
    · rw [List.map_map, List.length_map, hl]
      have e : (cs.map ((fun x => Str.length x) ∘ fun i => (⟨#[i]⟩ : Str))) = cs.map fun _ => 1 := rfl
      rw [e, sum_ones, hl]
      decide
    have own2 : Own m2 := hm2 ▸ w.free hp (fun c e => by cases e)
    have hp2 : m2 p = some (.lst (kinds.map AV.str)) := by rw [← hm2]; exact updA_same
    have sub2 : Sub m m2 := hm2 ▸ Sub.refl.new hp
    refine Fg.drop1 own2 hD ?_
    refine seq_i ?_
    simp only [aNext, aAsg, aName, aVar, slot, put, aC, aOp, aUn, aTest, aChain, aAnd, aOr, aNot, aAndV, aOrV, aNotV, aIf, aNil, aCons, aTup, aLst, aCB, aBM, aSl, aPart, aNoPart, aDrop, aRet, aIfS, aPar, aAug, aSub, aUnp, aGNil, aGCons, aCall, aYes, aNilEq, aJoin, wRange1, wAny, wStr, wEnum, wEnumD, wKeys, wVals, wItems, lkAt, aLc, aDc, aDc2, aDNew, aRev, aSetd, aGet1, aGet2, isD, dAt, Ab.keyOf, wipeA, List.set_cons_zero, List.set_cons_succ, asStrs_map, bSub, bAdd, bIAdd, bNeg, bIx, bSl, bInt, bSet, bPop, bInsert, bAppend, bExtend, bML, bEqB, bIsB, bInB, one, bLen, bList, bTuple, bSum, bToInt, bIsi, bRepr, bDict, bSorted, bMax, bAny, bAll, asBls_map, bMulL, aDispF, aSortSet, aListVals, aCallK, tyA, at0, at1, at2, at3, ixL0, ixL1, ixL2, set0, set1, set2, updA_same, updA_twice, List.append_nil, List.cons_append, List.nil_append, id_eq, spDraw]
    refine ⟨⟨c, hd1⟩, by decide, by decide, fun size s0 s1 => ?_⟩
    refine seq_n ?_
    simp only [aNext, aAsg, aName, aVar, slot, put, aC, aOp, aUn, aTest, aChain, aAnd, aOr, aNot, aAndV, aOrV, aNotV, aIf, aNil, aCons, aTup, aLst, aCB, aBM, aSl, aPart, aNoPart, aDrop, aRet, aIfS, aPar, aAug, aSub, aUnp, aGNil, aGCons, aCall, aYes, aNilEq, aJoin, wRange1, wAny, wStr, wEnum, wEnumD, wKeys, wVals, wItems, lkAt, aLc, aDc, aDc2, aDNew, aRev, aSetd, aGet1, aGet2, isD, dAt, Ab.keyOf, wipeA, List.set_cons_zero, List.set_cons_succ, asStrs_map, bSub, bAdd, bIAdd, bNeg, bIx, bSl, bInt, bSet, bPop, bInsert, bAppend, bExtend, bML, bEqB, bIsB, bInB, one, bLen, bList, bTuple, bSum, bToInt, bIsi, bRepr, bDict, bSorted, bMax, bAny, bAll, asBls_map, bMulL, aDispF, aSortSet, aListVals, aCallK, tyA, at0, at1, at2, at3, ixL0, ixL1, ixL2, set0, set1, set2, updA_same, updA_twice, List.append_nil, List.cons_append, List.nil_append, id_eq, spDraw]
    refine ⟨⟨c, hd1⟩, by omega, by omega, fun at_ u0 u1 => ?_⟩
    refine seq_n ?_
    simp only [aNext, aAsg, aName, aVar, slot, put, aC, aOp, aUn, aTest, aChain, aAnd, aOr, aNot, aAndV, aOrV, aNotV, aIf, aNil, aCons, aTup, aLst, aCB, aBM, aSl, aPart, aNoPart, aDrop, aRet, aIfS, aPar, aAug, aSub, aUnp, aGNil, aGCons, aCall, aYes, aNilEq, aJoin, wRange1, wAny, wStr, wEnum, wEnumD, wKeys, wVals, wItems, lkAt, aLc, aDc, aDc2, aDNew, aRev, aSetd, aGet1, aGet2, isD, dAt, Ab.keyOf, wipeA, List.set_cons_zero, List.set_cons_succ, asStrs_map, bSub, bAdd, bIAdd, bNeg, bIx, bSl, bInt, bSet, bPop, bInsert, bAppend, bExtend, bML, bEqB, bIsB, bInB, one, bLen, bList, bTuple, bSum, bToInt, bIsi, bRepr, bDict, bSorted, bMax, bAny, bAll, asBls_map, bMulL, aDispF, aSortSet, aListVals, aCallK, tyA, at0, at1, at2, at3, ixL0, ixL1, ixL2, set0, set1, set2, updA_same, updA_twice, List.append_nil, List.cons_append, List.nil_append, id_eq]
    have endOk : ∀ (D : Addr), m2 D = none → ∀ bs : List Str, bs.length = (upto n.toNat).length → (∀ w ∈ bs, Word w) → Fin K q (.ref D) (updA m2 D (.lst (bs.map .str))) := by
      intro D hD bs h1 h2
      have hDm := sub2.none hD
      refine Fin.list w (sub2.new hDm) hDm updA_same (k bs ?_ h2 D hDm)
      rw [h1, upto_len]
      omega
    by_cases hm : mode = 0
    · rw [if_pos (by simpa using hm)]
      refine ⟨by omega, by omega, fun D hD => ?_⟩
      refine lc_map0 AV.str Word (fun _ => trivial) _ (fun x hx acc k2 hk => ?_) (by rw [upto_len]; unfold sizeLine; omega) (endOk D hD)
      obtain ⟨i, rfl, i1⟩ := upto_mem hx
      simp only [aNext, aAsg, aName, aVar, slot, put, aC, aOp, aUn, aTest, aChain, aAnd, aOr, aNot, aAndV, aOrV, aNotV, aIf, aNil, aCons, aTup, aLst, aCB, aBM, aSl, aPart, aNoPart, aDrop, aRet, aIfS, aPar, aAug, aSub, aUnp, aGNil, aGCons, aCall, aYes, aNilEq, aJoin, wRange1, wAny, wStr, wEnum, wEnumD, wKeys, wVals, wItems, lkAt, aLc, aDc, aDc2, aDNew, aRev, aSetd, aGet1, aGet2, isD, dAt, Ab.keyOf, wipeA, List.set_cons_zero, List.set_cons_succ, asStrs_map, bSub, bAdd, bIAdd, bNeg, bIx, bSl, bInt, bSet, bPop, bInsert, bAppend, bExtend, bML, bEqB, bIsB, bInB, one, bLen, bList, bTuple, bSum, bToInt, bIsi, bRepr, bDict, bSorted, bMax, bAny, bAll, asBls_map, bMulL, aDispF, aSortSet, aListVals, aCallK, tyA, at0, at1, at2, at3, ixL0, ixL1, ixL2, set0, set1, set2, updA_same, updA_twice, List.append_nil, List.cons_append, List.nil_append, id_eq, updA_keep hD hp2]
      have j0 := Int.emod_nonneg (turn + 5 * (i : Int)) (b := 12) (by decide)
      have j1 := Int.emod_lt_of_pos (turn + 5 * (i : Int)) (b := 12) (by decide)
      obtain ⟨x, e, hx⟩ := at_lt (xs := kinds.map AV.str) (i := (turn + 5 * (i : Int)) % 12) j0 j1
      simp only [e]
      obtain ⟨w, hw, rfl⟩ := List.mem_map.mp hx
      exact ⟨.inl (by decide), by decide, .keep (hk w (kinds_ok w hw))⟩
    · rw [if_neg (by simpa using hm)]
      refine .keep ?_
      refine seq_i ?_
      simp only [aNext, aAsg, aName, aVar, slot, put, aC, aOp, aUn, aTest, aChain, aAnd, aOr, aNot, aAndV, aOrV, aNotV, aIf, aNil, aCons, aTup, aLst, aCB, aBM, aSl, aPart, aNoPart, aDrop, aRet, aIfS, aPar, aAug, aSub, aUnp, aGNil, aGCons, aCall, aYes, aNilEq, aJoin, wRange1, wAny, wStr, wEnum, wEnumD, wKeys, wVals, wItems, lkAt, aLc, aDc, aDc2, aDNew, aRev, aSetd, aGet1, aGet2, isD, dAt, Ab.keyOf, wipeA, List.set_cons_zero, List.set_cons_succ, asStrs_map, bSub, bAdd, bIAdd, bNeg, bIx, bSl, bInt, bSet, bPop, bInsert, bAppend, bExtend, bML, bEqB, bIsB, bInB, one, bLen, bList, bTuple, bSum, bToInt, bIsi, bRepr, bDict, bSorted, bMax, bAny, bAll, asBls_map, bMulL, aDispF, aSortSet, aListVals, aCallK, tyA, at0, at1, at2, at3, ixL0, ixL1, ixL2, set0, set1, set2, updA_same, updA_twice, List.append_nil, List.cons_append, List.nil_append, id_eq]
      have hcl : (⟨cs.toArray⟩ : Str).length = 8 := by rw [str_len]; exact hl
      by_cases h1 : mode = 1
      · rw [if_pos (by simpa using h1)]
        refine ⟨trivial, ?_⟩
        rw [if_pos (by simp; omega)]
        refine ⟨by omega, by omega, fun D hD => ?_⟩
        refine lc_map0 AV.str Word (fun _ => trivial) _ (fun x hx acc k2 hk => ?_) (by rw [upto_len]; unfold sizeLine; omega) (endOk D hD)
        obtain ⟨i, rfl, i1⟩ := upto_mem hx
        simp only [aNext, aAsg, aName, aVar, slot, put, aC, aOp, aUn, aTest, aChain, aAnd, aOr, aNot, aAndV, aOrV, aNotV, aIf, aNil, aCons, aTup, aLst, aCB, aBM, aSl, aPart, aNoPart, aDrop, aRet, aIfS, aPar, aAug, aSub, aUnp, aGNil, aGCons, aCall, aYes, aNilEq, aJoin, wRange1, wAny, wStr, wEnum, wEnumD, wKeys, wVals, wItems, lkAt, aLc, aDc, aDc2, aDNew, aRev, aSetd, aGet1, aGet2, isD, dAt, Ab.keyOf, wipeA, List.set_cons_zero, List.set_cons_succ, asStrs_map, bSub, bAdd, bIAdd, bNeg, bIx, bSl, bInt, bSet, bPop, bInsert, bAppend, bExtend, bML, bEqB, bIsB, bInB, one, bLen, bList, bTuple, bSum, bToInt, bIsi, bRepr, bDict, bSorted, bMax, bAny, bAll, asBls_map, bMulL, aDispF, aSortSet, aListVals, aCallK, tyA, at0, at1, at2, at3, ixL0, ixL1, ixL2, set0, set1, set2, updA_same, updA_twice, List.append_nil, List.cons_append, List.nil_append, id_eq]
        refine ⟨by rw [hcl]; decide, .keep (hk _ ⟨?_, ?_, fun x hx => ?_⟩)⟩
        · rw [str_len, cutS_G, cutG_to (by omega), List.length_take, ← str_len, hcl]; omega
        · rw [str_len, cutS_G, cutG_to (by omega), List.length_take, ← str_len, hcl]; omega
        · rw [cutS_G] at hx
          exact hcs x (cutG_mem hx)
      · rw [if_neg (by simpa using h1), if_neg (by decide)]
        refine .keep ?_
        simp only [aNext, aAsg, aName, aVar, slot, put, aC, aOp, aUn, aTest, aChain, aAnd, aOr, aNot, aAndV, aOrV, aNotV, aIf, aNil, aCons, aTup, aLst, aCB, aBM, aSl, aPart, aNoPart, aDrop, aRet, aIfS, aPar, aAug, aSub, aUnp, aGNil, aGCons, aCall, aYes, aNilEq, aJoin, wRange1, wAny, wStr, wEnum, wEnumD, wKeys, wVals, wItems, lkAt, aLc, aDc, aDc2, aDNew, aRev, aSetd, aGet1, aGet2, isD, dAt, Ab.keyOf, wipeA, List.set_cons_zero, List.set_cons_succ, asStrs_map, bSub, bAdd, bIAdd, bNeg, bIx, bSl, bInt, bSet, bPop, bInsert, bAppend, bExtend, bML, bEqB, bIsB, bInB, one, bLen, bList, bTuple, bSum, bToInt, bIsi, bRepr, bDict, bSorted, bMax, bAny, bAll, asBls_map, bMulL, aDispF, aSortSet, aListVals, aCallK, tyA, at0, at1, at2, at3, ixL0, ixL1, ixL2, set0, set1, set2, updA_same, updA_twice, List.append_nil, List.cons_append, List.nil_append, id_eq]
        refine ⟨by omega, by omega, fun D hD => ?_⟩
        refine lc_map0 AV.str Word (fun _ => trivial) _ (fun x hx acc k2 hk => ?_) (by rw [upto_len]; unfold sizeLine; omega) (endOk D hD)
        obtain ⟨i, rfl, i1⟩ := upto_mem hx
        have j0 := Int.emod_nonneg (turn + 7 * (i : Int)) (b := 26) (by decide)
        have j1 := Int.emod_lt_of_pos (turn + 7 * (i : Int)) (b := 26) (by decide)
        obtain ⟨x, e, hx⟩ := at_lt (xs := (Str.ofString "abcdefghijklmnopqrstuvwxyz").cps.toList) (i := (turn + 7 * (i : Int)) % 26) j0 j1
        simp only [aNext, aAsg, aName, aVar, slot, put, aC, aOp, aUn, aTest, aChain, aAnd, aOr, aNot, aAndV, aOrV, aNotV, aIf, aNil, aCons, aTup, aLst, aCB, aBM, aSl, aPart, aNoPart, aDrop, aRet, aIfS, aPar, aAug, aSub, aUnp, aGNil, aGCons, aCall, aYes, aNilEq, aJoin, wRange1, wAny, wStr, wEnum, wEnumD, wKeys, wVals, wItems, lkAt, aLc, aDc, aDc2, aDNew, aRev, aSetd, aGet1, aGet2, isD, dAt, Ab.keyOf, wipeA, List.set_cons_zero, List.set_cons_succ, asStrs_map, bSub, bAdd, bIAdd, bNeg, bIx, bSl, bInt, bSet, bPop, bInsert, bAppend, bExtend, bML, bEqB, bIsB, bInB, one, bLen, bList, bTuple, bSum, bToInt, bIsi, bRepr, bDict, bSorted, bMax, bAny, bAll, asBls_map, bMulL, aDispF, aSortSet, aListVals, aCallK, tyA, at0, at1, at2, at3, ixL0, ixL1, ixL2, set0, set1, set2, updA_same, updA_twice, List.append_nil, List.cons_append, List.nil_append, id_eq, e]
        have l1 : (cutS ⟨cs.toArray⟩ none (some at_)).length = at_.toNat := by
          rw [str_len, cutS_G, cutG_to u0, List.length_take, ← str_len, hcl]; omega
        have l2 : (cutS ⟨cs.toArray⟩ (some (at_ + 1)) (some (1 + size))).length = (1 + size).toNat - (at_ + 1).toNat := by
          rw [str_len, cutS_G, cutG_at (by omega) (by omega), List.length_take, List.length_drop, ← str_len, hcl]; omega
        have l3 : (⟨#[x]⟩ : Str).length = 1 := rfl
        rw [hcl, len_add, l1, l2, l3]
        refine ⟨by decide, .inl (by decide), by decide, by decide, sz (by omega), by decide, sz (by omega), .keep (hk _ ⟨?_, ?_, fun y hy => ?_⟩)⟩
        · rw [len_add, len_add, l1, l2, l3]; omega
        · rw [len_add, len_add, l1, l2, l3]; omega
        · rw [cps_add, cps_add, cutS_G, cutS_G] at hy
          rcases List.mem_append.mp hy with hy | hy
          · rcases List.mem_append.mp hy with hy | hy
            · exact hcs y (cutG_mem hy)
            · have : y = x := by simpa using hy
              subst this
              exact letters_ok y hx
          · exact hcs y (cutG_mem hy)
  · exact h.elim
end K01

namespace K01
open PySem PySem.Spec PyProof.Rows L2 Ab
variable {K : PySem.W.Frag}
def spNumber : ASp := fun xs m q => match xs with
  | [.ref d] => Own m ∧ (∃ c, m d = some (.deck c)) ∧ ∀ i, Far i → q (.int i) m
  | _ => False
theorem r__law_number : Reads K n__law_number (t__law_number K spDraw) spNumber := by
  intro H xs m q h g
  unfold spNumber at h
  split at h
  · rename_i d
    obtain ⟨w, ⟨c, hd⟩, k⟩ := h
    refine ⟨_, g, ?_⟩
    rw [show startA n__law_number [.ref d] = [some (.ref d), none] from rfl]
    unfold t__law_number
    refine seq_i ?_
    simp only [aNext, aAsg, aName, aVar, slot, put, aC, aOp, aUn, aTest, aChain, aAnd, aOr, aNot, aAndV, aOrV, aNotV, aIf, aNil, aCons, aTup, aLst, aCB, aBM, aSl, aPart, aNoPart, aDrop, aRet, aIfS, aPar, aAug, aSub, aUnp, aGNil, aGCons, aCall, aYes, aNilEq, aJoin, wRange1, wAny, wStr, wEnum, wEnumD, wKeys, wVals, wItems, lkAt, aLc, aDc, aDc2, aDNew, aRev, aSetd, aGet1, aGet2, isD, dAt, Ab.keyOf, wipeA, List.set_cons_zero, List.set_cons_succ, asStrs_map, bSub, bAdd, bIAdd, bNeg, bIx, bSl, bInt, bSet, bPop, bInsert, bAppend, bExtend, bML, bEqB, bIsB, bInB, one, bLen, bList, bTuple, bSum, bToInt, bIsi, bRepr, bDict, bSorted, bMax, bAny, bAll, asBls_map, bMulL, aDispF, aSortSet, aListVals, aCallK, tyA, at0, at1, at2, at3, ixL0, ixL1, ixL2, set0, set1, set2, updA_same, updA_twice, List.append_nil, List.cons_append, List.nil_append, id_eq, spDraw]
    refine ⟨⟨by decide, by decide, by decide⟩, ⟨c, hd⟩, by decide, by decide, fun i i0 i1 => ⟨⟨by decide, by decide, by decide⟩, .inr (by decide), ⟨by decide, by decide, by decide⟩, ⟨c, hd⟩, by decide, by decide, fun j j0 j1 => ?_⟩⟩
    refine .keep ?_
    have e6 : (10 : Int) ^ (6 : Int).toNat = 1000000 := by decide
    have e12 : (10 : Int) ^ (12 : Int).toNat = 1000000000000 := by decide
    rw [e6] at i1 j1 ⊢
    generalize hf : i * 1000000 + j = far
    have f0 : 0 ≤ far := by omega
    have f1 : far < 1000000000000 := by omega
    simp only [aNext, aAsg, aName, aVar, slot, put, aC, aOp, aUn, aTest, aChain, aAnd, aOr, aNot, aAndV, aOrV, aNotV, aIf, aNil, aCons, aTup, aLst, aCB, aBM, aSl, aPart, aNoPart, aDrop, aRet, aIfS, aPar, aAug, aSub, aUnp, aGNil, aGCons, aCall, aYes, aNilEq, aJoin, wRange1, wAny, wStr, wEnum, wEnumD, wKeys, wVals, wItems, lkAt, aLc, aDc, aDc2, aDNew, aRev, aSetd, aGet1, aGet2, isD, dAt, Ab.keyOf, wipeA, List.set_cons_zero, List.set_cons_succ, asStrs_map, bSub, bAdd, bIAdd, bNeg, bIx, bSl, bInt, bSet, bPop, bInsert, bAppend, bExtend, bML, bEqB, bIsB, bInB, one, bLen, bList, bTuple, bSum, bToInt, bIsi, bRepr, bDict, bSorted, bMax, bAny, bAll, asBls_map, bMulL, aDispF, aSortSet, aListVals, aCallK, tyA, at0, at1, at2, at3, ixL0, ixL1, ixL2, set0, set1, set2, updA_same, updA_twice, List.append_nil, List.cons_append, List.nil_append, id_eq, spDraw]
    refine ⟨⟨by decide, by decide, by decide⟩, sz (by simp), fun p hp => ⟨⟨c, updA_keep hp hd⟩, by decide, by decide, fun r r0 r1 => ?_⟩⟩
    rw [e12]
    have hi : ∀ x ∈ [0, 1, 2, 9, 10, 99, 100, -1, -10, 1000000000000, far, 0 - far], Far x := by
      simp only [List.forall_mem_cons]
      refine ⟨?_, ?_, ?_, ?_, ?_, ?_, ?_, ?_, ?_, ?_, ?_, ?_, fun _ z => (List.not_mem_nil z).elim⟩ <;> exact ⟨by omega, by omega⟩
    obtain ⟨x, e, hx⟩ := at_lt (xs := [0, 1, 2, 9, 10, 99, 100, -1, -10, 1000000000000, far, 0 - far].map AV.int) r0 r1
    obtain ⟨x', hx', rfl⟩ := List.mem_map.mp hx
    have e : atI [AV.int 0, AV.int 1, AV.int 2, AV.int 9, AV.int 10, AV.int 99, AV.int 100, AV.int (-1), AV.int (-10), AV.int 1000000000000, AV.int far, AV.int (0 - far)] r = some (AV.int x') := e
    simp only [e]
    exact Fin.pure w (Sub.refl.new hp) (k x' (hi x' hx'))
  · exact h.elim
structure Src (m : AHp) (ws us : Addr) (W : List Str) (U : List Int) : Prop where
  w : m ws = some (.lst (W.map .str))
  u : m us = some (.lst (U.map .int))
  ne : W ≠ []
  ok : ∀ x ∈ W, Word x
  wl : W.length < 1000
  ul : U.length < 1000
theorem Src.keep {m : AHp} {ws us p : Addr} {W : List Str} {U : List Int} {o : AO} (h : Src m ws us W U) (hp : m p = none) : Src (updA m p o) ws us W U :=
  ⟨updA_keep hp h.w, updA_keep hp h.u, h.ne, h.ok, h.wl, h.ul⟩
theorem Src.put {m : AHp} {ws us p : Addr} {W : List Str} {U : List Int} {o : AO} (h : Src m ws us W U) (h1 : ws ≠ p) (h2 : us ≠ p) : Src (updA m p o) ws us W U :=
  ⟨by rw [updA_ne h1]; exact h.w, by rw [updA_ne h2]; exact h.u, h.ne, h.ok, h.wl, h.ul⟩
def spTip : ASp := fun xs m q => match xs with
  | [.ref d, .ref ws, .ref us] => Own m ∧ (∃ c, m d = some (.deck c)) ∧ ∃ W U, Src m ws us W U ∧ ∀ t : Trm, t.tip → t.ok Far (· ∈ U) → q t.av m
  | _ => False
theorem r__law_tip : Reads K n__law_tip (t__law_tip K spDraw spNumber) spTip := by
  intro H xs m q h g
  unfold spTip at h
  split at h
  · rename_i d ws us
    obtain ⟨w, ⟨c, hd⟩, W, U, S, k⟩ := h
    refine ⟨_, g, ?_⟩
    rw [show startA n__law_tip [.ref d, .ref ws, .ref us] = [some (.ref d), some (.ref ws), some (.ref us), none] from rfl]
    unfold t__law_tip
    refine seq_i ?_
    simp only [aNext, aAsg, aName, aVar, slot, put, aC, aOp, aUn, aTest, aChain, aAnd, aOr, aNot, aAndV, aOrV, aNotV, aIf, aNil, aCons, aTup, aLst, aCB, aBM, aSl, aPart, aNoPart, aDrop, aRet, aIfS, aPar, aAug, aSub, aUnp, aGNil, aGCons, aCall, aYes, aNilEq, aJoin, wRange1, wAny, wStr, wEnum, wEnumD, wKeys, wVals, wItems, lkAt, aLc, aDc, aDc2, aDNew, aRev, aSetd, aGet1, aGet2, isD, dAt, Ab.keyOf, wipeA, List.set_cons_zero, List.set_cons_succ, asStrs_map, bSub, bAdd, bIAdd, bNeg, bIx, bSl, bInt, bSet, bPop, bInsert, bAppend, bExtend, bML, bEqB, bIsB, bInB, one, bLen, bList, bTuple, bSum, bToInt, bIsi, bRepr, bDict, bSorted, bMax, bAny, bAll, asBls_map, bMulL, aDispF, aSortSet, aListVals, aCallK, tyA, at0, at1, at2, at3, ixL0, ixL1, ixL2, set0, set1, set2, updA_same, updA_twice, List.append_nil, List.cons_append, List.nil_append, id_eq, spDraw]
    refine ⟨⟨c, hd⟩, by decide, by decide, fun kind i0 i1 => .keep ?_⟩
    have wl := S.wl
    have ul := S.ul
    have tail : ∀ d' : AEnds, d'.rt = (fun v m' => Fin K q v m') → aSeq K (aIfS (aTest (aOp bEq (aVar 3) (aC (.int 3)))) (aRet (aTup aNil)) aNext) (aSeq K (aIfS (aTest (aOp bLt (aVar 3) (aC (.int 6)))) (aRet (aOp bIx (aVar 1) (aCall spDraw [] (aCons (aVar 0) (aCons (aCB bLen (aCons (aVar 1) aNil)) aNil))))) aNext) (aRet (aCall spNumber [] (aCons (aVar 0) aNil)))) d' [some (.ref d), some (.ref ws), some (.ref us), some (.int kind)] m := by
      intro d' hd'
      refine seq_i ?_
      simp only [aNext, aAsg, aName, aVar, slot, put, aC, aOp, aUn, aTest, aChain, aAnd, aOr, aNot, aAndV, aOrV, aNotV, aIf, aNil, aCons, aTup, aLst, aCB, aBM, aSl, aPart, aNoPart, aDrop, aRet, aIfS, aPar, aAug, aSub, aUnp, aGNil, aGCons, aCall, aYes, aNilEq, aJoin, wRange1, wAny, wStr, wEnum, wEnumD, wKeys, wVals, wItems, lkAt, aLc, aDc, aDc2, aDNew, aRev, aSetd, aGet1, aGet2, isD, dAt, Ab.keyOf, wipeA, List.set_cons_zero, List.set_cons_succ, asStrs_map, bSub, bAdd, bIAdd, bNeg, bIx, bSl, bInt, bSet, bPop, bInsert, bAppend, bExtend, bML, bEqB, bIsB, bInB, one, bLen, bList, bTuple, bSum, bToInt, bIsi, bRepr, bDict, bSorted, bMax, bAny, bAll, asBls_map, bMulL, aDispF, aSortSet, aListVals, aCallK, tyA, at0, at1, at2, at3, ixL0, ixL1, ixL2, set0, set1, set2, updA_same, updA_twice, List.append_nil, List.cons_append, List.nil_append, id_eq]
      by_cases h3 : kind = 3
      · rw [if_pos (by simpa using h3)]
        refine ⟨sz (by simp), ?_⟩
        rw [hd']
        exact Fin.same (k .nil trivial trivial)
      rw [if_neg (by simpa using h3)]
      refine seq_n ?_
      simp only [aNext, aAsg, aName, aVar, slot, put, aC, aOp, aUn, aTest, aChain, aAnd, aOr, aNot, aAndV, aOrV, aNotV, aIf, aNil, aCons, aTup, aLst, aCB, aBM, aSl, aPart, aNoPart, aDrop, aRet, aIfS, aPar, aAug, aSub, aUnp, aGNil, aGCons, aCall, aYes, aNilEq, aJoin, wRange1, wAny, wStr, wEnum, wEnumD, wKeys, wVals, wItems, lkAt, aLc, aDc, aDc2, aDNew, aRev, aSetd, aGet1, aGet2, isD, dAt, Ab.keyOf, wipeA, List.set_cons_zero, List.set_cons_succ, asStrs_map, bSub, bAdd, bIAdd, bNeg, bIx, bSl, bInt, bSet, bPop, bInsert, bAppend, bExtend, bML, bEqB, bIsB, bInB, one, bLen, bList, bTuple, bSum, bToInt, bIsi, bRepr, bDict, bSorted, bMax, bAny, bAll, asBls_map, bMulL, aDispF, aSortSet, aListVals, aCallK, tyA, at0, at1, at2, at3, ixL0, ixL1, ixL2, set0, set1, set2, updA_same, updA_twice, List.append_nil, List.cons_append, List.nil_append, id_eq]
      refine ⟨trivial, ?_⟩
      by_cases h6 : kind < 6
      · rw [if_pos (by simpa using h6)]
        simp only [S.w, spDraw, List.length_map]
        have : 0 < W.length := List.length_pos_iff.mpr S.ne
        refine ⟨⟨c, hd⟩, by omega, by omega, fun r r0 r1 => ?_⟩
        obtain ⟨x, e, hx⟩ := at_lt (xs := W.map AV.str) r0 (by rw [List.length_map]; exact r1)
        obtain ⟨x', hx', rfl⟩ := List.mem_map.mp hx
        simp only [e, hd']
        exact Fin.same (k (.wd x') trivial (S.ok x' hx'))
      · rw [if_neg (by simpa using h6)]
        refine .keep ?_
        simp only [aNext, aAsg, aName, aVar, slot, put, aC, aOp, aUn, aTest, aChain, aAnd, aOr, aNot, aAndV, aOrV, aNotV, aIf, aNil, aCons, aTup, aLst, aCB, aBM, aSl, aPart, aNoPart, aDrop, aRet, aIfS, aPar, aAug, aSub, aUnp, aGNil, aGCons, aCall, aYes, aNilEq, aJoin, wRange1, wAny, wStr, wEnum, wEnumD, wKeys, wVals, wItems, lkAt, aLc, aDc, aDc2, aDNew, aRev, aSetd, aGet1, aGet2, isD, dAt, Ab.keyOf, wipeA, List.set_cons_zero, List.set_cons_succ, asStrs_map, bSub, bAdd, bIAdd, bNeg, bIx, bSl, bInt, bSet, bPop, bInsert, bAppend, bExtend, bML, bEqB, bIsB, bInB, one, bLen, bList, bTuple, bSum, bToInt, bIsi, bRepr, bDict, bSorted, bMax, bAny, bAll, asBls_map, bMulL, aDispF, aSortSet, aListVals, aCallK, tyA, at0, at1, at2, at3, ixL0, ixL1, ixL2, set0, set1, set2, updA_same, updA_twice, List.append_nil, List.cons_append, List.nil_append, id_eq, spNumber, hd']
        exact ⟨w, ⟨c, hd⟩, fun i hi => Fin.same (k (.num i) trivial hi)⟩
    refine seq_i ?_
    simp only [aNext, aAsg, aName, aVar, slot, put, aC, aOp, aUn, aTest, aChain, aAnd, aOr, aNot, aAndV, aOrV, aNotV, aIf, aNil, aCons, aTup, aLst, aCB, aBM, aSl, aPart, aNoPart, aDrop, aRet, aIfS, aPar, aAug, aSub, aUnp, aGNil, aGCons, aCall, aYes, aNilEq, aJoin, wRange1, wAny, wStr, wEnum, wEnumD, wKeys, wVals, wItems, lkAt, aLc, aDc, aDc2, aDNew, aRev, aSetd, aGet1, aGet2, isD, dAt, Ab.keyOf, wipeA, List.set_cons_zero, List.set_cons_succ, asStrs_map, bSub, bAdd, bIAdd, bNeg, bIx, bSl, bInt, bSet, bPop, bInsert, bAppend, bExtend, bML, bEqB, bIsB, bInB, one, bLen, bList, bTuple, bSum, bToInt, bIsi, bRepr, bDict, bSorted, bMax, bAny, bAll, asBls_map, bMulL, aDispF, aSortSet, aListVals, aCallK, tyA, at0, at1, at2, at3, ixL0, ixL1, ixL2, set0, set1, set2, updA_same, updA_twice, List.append_nil, List.cons_append, List.nil_append, id_eq, S.u]
    refine ⟨trivial, ?_⟩
    by_cases h3 : kind < 3
    · rw [if_pos (by simpa using h3)]
      cases U with
      | nil => exact .keep (tail _ rfl)
      | cons u U =>
        rw [if_pos (show (!(List.map AV.int (u :: U)).isEmpty) = true from rfl)]
        simp only [spDraw, List.length_map, S.u]
        refine ⟨⟨c, hd⟩, by simp only [List.length_cons]; omega, by omega, fun r r0 r1 => ?_⟩
        obtain ⟨x, e, hx⟩ := at_lt (xs := (u :: U).map AV.int) r0 (by rw [List.length_map]; exact r1)
        obtain ⟨x', hx', rfl⟩ := List.mem_map.mp hx
        simp only [e]
        exact ⟨sz (by simp), Fin.same (k (.unk x') trivial hx')⟩
    · rw [if_neg (by simpa using h3), if_neg (by decide)]
      exact .keep (tail _ rfl)
  · exact h.elim
end K01

namespace K01
open PySem PySem.Spec PyProof.Rows L2 Ab
variable {K : PySem.W.Frag}
def spTerm (n : Nat) : ASp := fun xs m q => match xs with
  | [.ref d, .ref ws, .ref us, .int deep, .ref left] => Own m ∧ (∃ c, m d = some (.deck c)) ∧ deep ≤ n ∧ ∃ W U, Src m ws us W U ∧ ws ≠ left ∧ us ≠ left ∧ ∃ l : Int, m left = some (.lst [.int l]) ∧
    ∀ (t : Trm) (l' : Int), t.ok Far (· ∈ U) → (t.deep : Int) ≤ max 1 deep → 2 * (t.pairs : Int) = l - l' → (0 ≤ l → 0 ≤ l') → q t.av (updA m left (.lst [.int l']))
  | _ => False
theorem spTip_at {d ws us c : Addr} {m : AHp} {W : List Str} {U : List Int} {q : AK} (w : Own m) (hd : m d = some (.deck c)) (S : Src m ws us W U) (k : ∀ t : Trm, t.tip → t.ok Far (· ∈ U) → q t.av m) : spTip [.ref d, .ref ws, .ref us] m q := ⟨w, ⟨c, hd⟩, W, U, S, k⟩
theorem r__law_term (n : Nat) {sp : ASp} (hsp : ∀ xs m q, n ≠ 0 → spTerm (n - 1) xs m q → sp xs m q) : Reads K n__law_term (t__law_term K spDraw sp spTip) (spTerm n) := by
  intro H xs m q h g
  unfold spTerm at h
  split at h
  · rename_i d ws us deep left
    obtain ⟨w, ⟨c, hd⟩, hn, W, U, S, n1, n2, l, hl, k⟩ := h
    have n0 : d ≠ left := fun e => by rw [← e, hd] at hl; cases hl
    refine ⟨_, g, ?_⟩
    rw [show startA n__law_term [.ref d, .ref ws, .ref us, .int deep, .ref left] = [some (.ref d), some (.ref ws), some (.ref us), some (.int deep), some (.ref left), none, none] from rfl]
    unfold t__law_term
    have tip : spTip [.ref d, .ref ws, .ref us] m (Fin K q) := spTip_at w hd S fun t h1 h2 => by
      have := Trm.tip_deep h1
      have e := k t l h2 (by omega) (by omega) (fun z => z)
      rw [updA_self hl] at e
      exact Fin.same e
    refine seq_i ?_
    simp only [aNext, aAsg, aName, aVar, slot, put, aC, aOp, aUn, aTest, aChain, aAnd, aOr, aNot, aAndV, aOrV, aNotV, aIf, aNil, aCons, aTup, aLst, aCB, aBM, aSl, aPart, aNoPart, aDrop, aRet, aIfS, aPar, aAug, aSub, aUnp, aGNil, aGCons, aCall, aYes, aNilEq, aJoin, wRange1, wAny, wStr, wEnum, wEnumD, wKeys, wVals, wItems, lkAt, aLc, aDc, aDc2, aDNew, aRev, aSetd, aGet1, aGet2, isD, dAt, Ab.keyOf, wipeA, List.set_cons_zero, List.set_cons_succ, asStrs_map, bSub, bAdd, bIAdd, bNeg, bIx, bSl, bInt, bSet, bPop, bInsert, bAppend, bExtend, bML, bEqB, bIsB, bInB, one, bLen, bList, bTuple, bSum, bToInt, bIsi, bRepr, bDict, bSorted, bMax, bAny, bAll, asBls_map, bMulL, aDispF, aSortSet, aListVals, aCallK, tyA, at0, at1, at2, at3, ixL0, ixL1, ixL2, set0, set1, set2, updA_same, updA_twice, List.append_nil, List.cons_append, List.nil_append, id_eq, spDraw]
    refine ⟨⟨c, hd⟩, by decide, by decide, fun kind i0 i1 => .keep ?_⟩
    refine seq_i ?_
    simp only [aNext, aAsg, aName, aVar, slot, put, aC, aOp, aUn, aTest, aChain, aAnd, aOr, aNot, aAndV, aOrV, aNotV, aIf, aNil, aCons, aTup, aLst, aCB, aBM, aSl, aPart, aNoPart, aDrop, aRet, aIfS, aPar, aAug, aSub, aUnp, aGNil, aGCons, aCall, aYes, aNilEq, aJoin, wRange1, wAny, wStr, wEnum, wEnumD, wKeys, wVals, wItems, lkAt, aLc, aDc, aDc2, aDNew, aRev, aSetd, aGet1, aGet2, isD, dAt, Ab.keyOf, wipeA, List.set_cons_zero, List.set_cons_succ, asStrs_map, bSub, bAdd, bIAdd, bNeg, bIx, bSl, bInt, bSet, bPop, bInsert, bAppend, bExtend, bML, bEqB, bIsB, bInB, one, bLen, bList, bTuple, bSum, bToInt, bIsi, bRepr, bDict, bSorted, bMax, bAny, bAll, asBls_map, bMulL, aDispF, aSortSet, aListVals, aCallK, tyA, at0, at1, at2, at3, ixL0, ixL1, ixL2, set0, set1, set2, updA_same, updA_twice, List.append_nil, List.cons_append, List.nil_append, id_eq, hl]
    refine ⟨trivial, ?_⟩
    by_cases h2 : deep < 2
    · rw [if_pos (by simpa using h2), if_pos trivial]; exact tip
    rw [if_neg (by simpa using h2)]
    refine ⟨trivial, ?_⟩
    by_cases h3 : l < 2
    · rw [if_pos (by simpa using h3), if_pos trivial]; exact tip
    rw [if_neg (by simpa using h3)]
    by_cases h4 : kind = 0
    · rw [if_pos (by simpa using h4)]; exact tip
    rw [if_neg (by simpa using h4)]
    refine .keep ?_
    refine seq_i ?_
    simp only [aNext, aAsg, aName, aVar, slot, put, aC, aOp, aUn, aTest, aChain, aAnd, aOr, aNot, aAndV, aOrV, aNotV, aIf, aNil, aCons, aTup, aLst, aCB, aBM, aSl, aPart, aNoPart, aDrop, aRet, aIfS, aPar, aAug, aSub, aUnp, aGNil, aGCons, aCall, aYes, aNilEq, aJoin, wRange1, wAny, wStr, wEnum, wEnumD, wKeys, wVals, wItems, lkAt, aLc, aDc, aDc2, aDNew, aRev, aSetd, aGet1, aGet2, isD, dAt, Ab.keyOf, wipeA, List.set_cons_zero, List.set_cons_succ, asStrs_map, bSub, bAdd, bIAdd, bNeg, bIx, bSl, bInt, bSet, bPop, bInsert, bAppend, bExtend, bML, bEqB, bIsB, bInB, one, bLen, bList, bTuple, bSum, bToInt, bIsi, bRepr, bDict, bSorted, bMax, bAny, bAll, asBls_map, bMulL, aDispF, aSortSet, aListVals, aCallK, tyA, at0, at1, at2, at3, ixL0, ixL1, ixL2, set0, set1, set2, updA_same, updA_twice, List.append_nil, List.cons_append, List.nil_append, id_eq, hl]
    refine .keep ?_
    have hm2 : ∀ o, updA m left o left = some o := fun o => updA_same
    have w2 : ∀ o, (∀ c, o ≠ .deck c) → Own (updA m left o) := fun o no => w.put (fun b e => by rw [hl] at e; cases e) no
    have hd2 : ∀ o, updA m left o d = some (.deck c) := fun o => by rw [updA_ne n0]; exact hd
    have S2 : ∀ o, Src (updA m left o) ws us W U := fun o => S.put n1 n2
    refine seq_i ?_
    simp only [aNext, aAsg, aName, aVar, slot, put, aC, aOp, aUn, aTest, aChain, aAnd, aOr, aNot, aAndV, aOrV, aNotV, aIf, aNil, aCons, aTup, aLst, aCB, aBM, aSl, aPart, aNoPart, aDrop, aRet, aIfS, aPar, aAug, aSub, aUnp, aGNil, aGCons, aCall, aYes, aNilEq, aJoin, wRange1, wAny, wStr, wEnum, wEnumD, wKeys, wVals, wItems, lkAt, aLc, aDc, aDc2, aDNew, aRev, aSetd, aGet1, aGet2, isD, dAt, Ab.keyOf, wipeA, List.set_cons_zero, List.set_cons_succ, asStrs_map, bSub, bAdd, bIAdd, bNeg, bIx, bSl, bInt, bSet, bPop, bInsert, bAppend, bExtend, bML, bEqB, bIsB, bInB, one, bLen, bList, bTuple, bSum, bToInt, bIsi, bRepr, bDict, bSorted, bMax, bAny, bAll, asBls_map, bMulL, aDispF, aSortSet, aListVals, aCallK, tyA, at0, at1, at2, at3, ixL0, ixL1, ixL2, set0, set1, set2, updA_same, updA_twice, List.append_nil, List.cons_append, List.nil_append, id_eq, hl]
    refine ⟨sz (by simp), fun p hp => ?_⟩
    have hv : ∃ v : Int, atI [AV.int (deep - 1), AV.int 1] (if decide (kind = 1) = true then 1 else 0) = some (.int v) ∧ v ≤ deep - 1 ∧ 1 ≤ v := by
      by_cases h5 : kind = 1
      · rw [if_pos (by simpa using h5)]
        exact ⟨1, at1, by omega, by omega⟩
      · rw [if_neg (by simpa using h5)]
        exact ⟨deep - 1, at0, by omega, by omega⟩
    obtain ⟨v, e, v1, v2⟩ := hv
    simp only [e]
    have np : left ≠ p := fun e => by rw [← e, updA_same] at hp; cases hp
    have hs := S2 (.lst [.int (l - 2)])
    refine hsp _ _ _ (by omega) ⟨(w2 _ (fun c e => by cases e)).free hp (fun c e => by cases e), ⟨c, updA_keep hp (hd2 _)⟩, by omega, W, U, hs.keep hp, n1, n2, l - 2, updA_keep hp updA_same, fun t1 l1 o1 de1 p1 z1 => ?_⟩
    rw [updA_swap np, updA_twice]
    refine Fg.drop1 (w2 _ (fun c e => by cases e)) (by rw [updA_ne (Ne.symm np)] at hp ⊢; exact hp) ?_
    simp only [aNext, aAsg, aName, aVar, slot, put, aC, aOp, aUn, aTest, aChain, aAnd, aOr, aNot, aAndV, aOrV, aNotV, aIf, aNil, aCons, aTup, aLst, aCB, aBM, aSl, aPart, aNoPart, aDrop, aRet, aIfS, aPar, aAug, aSub, aUnp, aGNil, aGCons, aCall, aYes, aNilEq, aJoin, wRange1, wAny, wStr, wEnum, wEnumD, wKeys, wVals, wItems, lkAt, aLc, aDc, aDc2, aDNew, aRev, aSetd, aGet1, aGet2, isD, dAt, Ab.keyOf, wipeA, List.set_cons_zero, List.set_cons_succ, asStrs_map, bSub, bAdd, bIAdd, bNeg, bIx, bSl, bInt, bSet, bPop, bInsert, bAppend, bExtend, bML, bEqB, bIsB, bInB, one, bLen, bList, bTuple, bSum, bToInt, bIsi, bRepr, bDict, bSorted, bMax, bAny, bAll, asBls_map, bMulL, aDispF, aSortSet, aListVals, aCallK, tyA, at0, at1, at2, at3, ixL0, ixL1, ixL2, set0, set1, set2, updA_same, updA_twice, List.append_nil, List.cons_append, List.nil_append, id_eq]
    refine hsp _ _ _ (by omega) ⟨w2 _ (fun c e => by cases e), ⟨c, hd2 _⟩, by omega, W, U, S2 _, n1, n2, l1, updA_same, fun t2 l2 o2 de2 p2 z2 => ?_⟩
    rw [updA_twice]
    refine ⟨sz (by simp), Fin.same (k (.pair t1 t2) l2 ⟨o1, o2⟩ ?_ ?_ ?_)⟩
    · simp only [Trm.deep]; omega
    · simp only [Trm.pairs]; omega
    · omega
  · exact h.elim
def spAny : ASp := fun xs m q => match xs with
  | [.ref d, .ref ws, .ref us] => Own m ∧ (∃ c, m d = some (.deck c)) ∧ ∃ W U, Src m ws us W U ∧ ∀ t : Trm, t.ok Far (· ∈ U) → t.deep ≤ 30 → t.pairs ≤ 58 → q t.av m
  | _ => False
theorem r__law_any_term : Reads K n__law_any_term (t__law_any_term K spDraw (spTerm 29) spTip) spAny := by
  intro H xs m q h g
  unfold spAny at h
  split at h
  · rename_i d ws us
    obtain ⟨w, ⟨c, hd⟩, W, U, S, k⟩ := h
    refine ⟨_, g, ?_⟩
    rw [show startA n__law_any_term [.ref d, .ref ws, .ref us] = [some (.ref d), some (.ref ws), some (.ref us), none, none, none, none] from rfl]
    unfold t__law_any_term
    refine seq_i ?_
    simp only [aNext, aAsg, aName, aVar, slot, put, aC, aOp, aUn, aTest, aChain, aAnd, aOr, aNot, aAndV, aOrV, aNotV, aIf, aNil, aCons, aTup, aLst, aCB, aBM, aSl, aPart, aNoPart, aDrop, aRet, aIfS, aPar, aAug, aSub, aUnp, aGNil, aGCons, aCall, aYes, aNilEq, aJoin, wRange1, wAny, wStr, wEnum, wEnumD, wKeys, wVals, wItems, lkAt, aLc, aDc, aDc2, aDNew, aRev, aSetd, aGet1, aGet2, isD, dAt, Ab.keyOf, wipeA, List.set_cons_zero, List.set_cons_succ, asStrs_map, bSub, bAdd, bIAdd, bNeg, bIx, bSl, bInt, bSet, bPop, bInsert, bAppend, bExtend, bML, bEqB, bIsB, bInB, one, bLen, bList, bTuple, bSum, bToInt, bIsi, bRepr, bDict, bSorted, bMax, bAny, bAll, asBls_map, bMulL, aDispF, aSortSet, aListVals, aCallK, tyA, at0, at1, at2, at3, ixL0, ixL1, ixL2, set0, set1, set2, updA_same, updA_twice, List.append_nil, List.cons_append, List.nil_append, id_eq, spDraw]
    refine ⟨⟨c, hd⟩, by decide, by decide, fun kind i0 i1 => .keep ?_⟩
    refine seq_i ?_
    simp only [aNext, aAsg, aName, aVar, slot, put, aC, aOp, aUn, aTest, aChain, aAnd, aOr, aNot, aAndV, aOrV, aNotV, aIf, aNil, aCons, aTup, aLst, aCB, aBM, aSl, aPart, aNoPart, aDrop, aRet, aIfS, aPar, aAug, aSub, aUnp, aGNil, aGCons, aCall, aYes, aNilEq, aJoin, wRange1, wAny, wStr, wEnum, wEnumD, wKeys, wVals, wItems, lkAt, aLc, aDc, aDc2, aDNew, aRev, aSetd, aGet1, aGet2, isD, dAt, Ab.keyOf, wipeA, List.set_cons_zero, List.set_cons_succ, asStrs_map, bSub, bAdd, bIAdd, bNeg, bIx, bSl, bInt, bSet, bPop, bInsert, bAppend, bExtend, bML, bEqB, bIsB, bInB, one, bLen, bList, bTuple, bSum, bToInt, bIsi, bRepr, bDict, bSorted, bMax, bAny, bAll, asBls_map, bMulL, aDispF, aSortSet, aListVals, aCallK, tyA, at0, at1, at2, at3, ixL0, ixL1, ixL2, set0, set1, set2, updA_same, updA_twice, List.append_nil, List.cons_append, List.nil_append, id_eq]
    by_cases h5 : kind = 5
    · rw [if_pos (by simpa using h5)]
      refine ⟨sz (by simp), fun p hp => ?_⟩
      have n1 : ws ≠ p := fun e => by rw [← e, S.w] at hp; cases hp
      have n2 : us ≠ p := fun e => by rw [← e, S.u] at hp; cases hp
      refine ⟨w.free hp (fun c e => by cases e), ⟨c, updA_keep hp hd⟩, by decide, W, U, S.keep hp, n1, n2, 116, updA_same, fun t l' o de pr z => ?_⟩
      rw [updA_twice]
      exact Fin.pure w (Sub.refl.new hp) (k t o (by omega) (by omega))
    rw [if_neg (by simpa using h5)]
    refine .keep ?_
    refine seq_i ?_
    simp only [aNext, aAsg, aName, aVar, slot, put, aC, aOp, aUn, aTest, aChain, aAnd, aOr, aNot, aAndV, aOrV, aNotV, aIf, aNil, aCons, aTup, aLst, aCB, aBM, aSl, aPart, aNoPart, aDrop, aRet, aIfS, aPar, aAug, aSub, aUnp, aGNil, aGCons, aCall, aYes, aNilEq, aJoin, wRange1, wAny, wStr, wEnum, wEnumD, wKeys, wVals, wItems, lkAt, aLc, aDc, aDc2, aDNew, aRev, aSetd, aGet1, aGet2, isD, dAt, Ab.keyOf, wipeA, List.set_cons_zero, List.set_cons_succ, asStrs_map, bSub, bAdd, bIAdd, bNeg, bIx, bSl, bInt, bSet, bPop, bInsert, bAppend, bExtend, bML, bEqB, bIsB, bInB, one, bLen, bList, bTuple, bSum, bToInt, bIsi, bRepr, bDict, bSorted, bMax, bAny, bAll, asBls_map, bMulL, aDispF, aSortSet, aListVals, aCallK, tyA, at0, at1, at2, at3, ixL0, ixL1, ixL2, set0, set1, set2, updA_same, updA_twice, List.append_nil, List.cons_append, List.nil_append, id_eq]
    refine ⟨trivial, ?_⟩
    by_cases h6 : 5 < kind
    · rw [if_pos (by simpa using h6)]
      refine seq_i ?_
      simp only [aNext, aAsg, aName, aVar, slot, put, aC, aOp, aUn, aTest, aChain, aAnd, aOr, aNot, aAndV, aOrV, aNotV, aIf, aNil, aCons, aTup, aLst, aCB, aBM, aSl, aPart, aNoPart, aDrop, aRet, aIfS, aPar, aAug, aSub, aUnp, aGNil, aGCons, aCall, aYes, aNilEq, aJoin, wRange1, wAny, wStr, wEnum, wEnumD, wKeys, wVals, wItems, lkAt, aLc, aDc, aDc2, aDNew, aRev, aSetd, aGet1, aGet2, isD, dAt, Ab.keyOf, wipeA, List.set_cons_zero, List.set_cons_succ, asStrs_map, bSub, bAdd, bIAdd, bNeg, bIx, bSl, bInt, bSet, bPop, bInsert, bAppend, bExtend, bML, bEqB, bIsB, bInB, one, bLen, bList, bTuple, bSum, bToInt, bIsi, bRepr, bDict, bSorted, bMax, bAny, bAll, asBls_map, bMulL, aDispF, aSortSet, aListVals, aCallK, tyA, at0, at1, at2, at3, ixL0, ixL1, ixL2, set0, set1, set2, updA_same, updA_twice, List.append_nil, List.cons_append, List.nil_append, id_eq]
      refine spTip_at w hd S fun t h1 h2 => .keep ?_
      refine seq_i ?_
      simp only [aFor, aNext, aAsg, aName, aVar, slot, put, aC, aOp, aUn, aTest, aChain, aAnd, aOr, aNot, aAndV, aOrV, aNotV, aIf, aNil, aCons, aTup, aLst, aCB, aBM, aSl, aPart, aNoPart, aDrop, aRet, aIfS, aPar, aAug, aSub, aUnp, aGNil, aGCons, aCall, aYes, aNilEq, aJoin, wRange1, wAny, wStr, wEnum, wEnumD, wKeys, wVals, wItems, lkAt, aLc, aDc, aDc2, aDNew, aRev, aSetd, aGet1, aGet2, isD, dAt, Ab.keyOf, wipeA, List.set_cons_zero, List.set_cons_succ, asStrs_map, bSub, bAdd, bIAdd, bNeg, bIx, bSl, bInt, bSet, bPop, bInsert, bAppend, bExtend, bML, bEqB, bIsB, bInB, one, bLen, bList, bTuple, bSum, bToInt, bIsi, bRepr, bDict, bSorted, bMax, bAny, bAll, asBls_map, bMulL, aDispF, aSortSet, aListVals, aCallK, tyA, at0, at1, at2, at3, ixL0, ixL1, ixL2, set0, set1, set2, updA_same, updA_twice, List.append_nil, List.cons_append, List.nil_append, id_eq, spDraw]
      refine ⟨⟨c, hd⟩, by decide, by decide, fun r r0 r1 => ⟨by omega, by omega, ?_⟩⟩
      have td := Trm.tip_deep h1
      refine for_inv (fun xs' a' m' => ∃ (t : Trm) (x5 x6 : Option AV), a' = [some (.ref d), some (.ref ws), some (.ref us), some (.int kind), some t.av, x5, x6] ∧ m' = m ∧ t.ok Far (· ∈ U) ∧ t.deep + xs'.length ≤ 30 ∧ t.pairs + xs'.length ≤ 58) ?_ ?_ _ _ _ ⟨t, none, none, rfl, rfl, h2, by rw [upto_len]; omega, by rw [upto_len]; omega⟩
      · rintro x rr _ _ ⟨t, x5, x6, rfl, rfl, o1, b1, b2⟩
        refine ⟨trivial, fun nx hnx => ?_⟩
        simp only [aNext, aAsg, aName, aVar, slot, put, aC, aOp, aUn, aTest, aChain, aAnd, aOr, aNot, aAndV, aOrV, aNotV, aIf, aNil, aCons, aTup, aLst, aCB, aBM, aSl, aPart, aNoPart, aDrop, aRet, aIfS, aPar, aAug, aSub, aUnp, aGNil, aGCons, aCall, aYes, aNilEq, aJoin, wRange1, wAny, wStr, wEnum, wEnumD, wKeys, wVals, wItems, lkAt, aLc, aDc, aDc2, aDNew, aRev, aSetd, aGet1, aGet2, isD, dAt, Ab.keyOf, wipeA, List.set_cons_zero, List.set_cons_succ, asStrs_map, bSub, bAdd, bIAdd, bNeg, bIx, bSl, bInt, bSet, bPop, bInsert, bAppend, bExtend, bML, bEqB, bIsB, bInB, one, bLen, bList, bTuple, bSum, bToInt, bIsi, bRepr, bDict, bSorted, bMax, bAny, bAll, asBls_map, bMulL, aDispF, aSortSet, aListVals, aCallK, tyA, at0, at1, at2, at3, ixL0, ixL1, ixL2, set0, set1, set2, updA_same, updA_twice, List.append_nil, List.cons_append, List.nil_append, id_eq]
        refine seq_i ?_
        simp only [aNext, aAsg, aName, aVar, slot, put, aC, aOp, aUn, aTest, aChain, aAnd, aOr, aNot, aAndV, aOrV, aNotV, aIf, aNil, aCons, aTup, aLst, aCB, aBM, aSl, aPart, aNoPart, aDrop, aRet, aIfS, aPar, aAug, aSub, aUnp, aGNil, aGCons, aCall, aYes, aNilEq, aJoin, wRange1, wAny, wStr, wEnum, wEnumD, wKeys, wVals, wItems, lkAt, aLc, aDc, aDc2, aDNew, aRev, aSetd, aGet1, aGet2, isD, dAt, Ab.keyOf, wipeA, List.set_cons_zero, List.set_cons_succ, asStrs_map, bSub, bAdd, bIAdd, bNeg, bIx, bSl, bInt, bSet, bPop, bInsert, bAppend, bExtend, bML, bEqB, bIsB, bInB, one, bLen, bList, bTuple, bSum, bToInt, bIsi, bRepr, bDict, bSorted, bMax, bAny, bAll, asBls_map, bMulL, aDispF, aSortSet, aListVals, aCallK, tyA, at0, at1, at2, at3, ixL0, ixL1, ixL2, set0, set1, set2, updA_same, updA_twice, List.append_nil, List.cons_append, List.nil_append, id_eq]
        refine spTip_at w hd S fun t1 h3 h4 => .keep ?_
        simp only [aNext, aAsg, aName, aVar, slot, put, aC, aOp, aUn, aTest, aChain, aAnd, aOr, aNot, aAndV, aOrV, aNotV, aIf, aNil, aCons, aTup, aLst, aCB, aBM, aSl, aPart, aNoPart, aDrop, aRet, aIfS, aPar, aAug, aSub, aUnp, aGNil, aGCons, aCall, aYes, aNilEq, aJoin, wRange1, wAny, wStr, wEnum, wEnumD, wKeys, wVals, wItems, lkAt, aLc, aDc, aDc2, aDNew, aRev, aSetd, aGet1, aGet2, isD, dAt, Ab.keyOf, wipeA, List.set_cons_zero, List.set_cons_succ, asStrs_map, bSub, bAdd, bIAdd, bNeg, bIx, bSl, bInt, bSet, bPop, bInsert, bAppend, bExtend, bML, bEqB, bIsB, bInB, one, bLen, bList, bTuple, bSum, bToInt, bIsi, bRepr, bDict, bSorted, bMax, bAny, bAll, asBls_map, bMulL, aDispF, aSortSet, aListVals, aCallK, tyA, at0, at1, at2, at3, ixL0, ixL1, ixL2, set0, set1, set2, updA_same, updA_twice, List.append_nil, List.cons_append, List.nil_append, id_eq]
        refine ⟨sz (by simp), sz (by simp), sz (by simp), fun p hp => ?_⟩
        have td1 := Trm.tip_deep h3
        rw [List.length_cons] at b1 b2
        have hv : ∃ t2 : Trm, atI [AV.tup [t1.av, t.av], AV.tup [t.av, t1.av]] (kind - 6) = some t2.av ∧ t2.ok Far (· ∈ U) ∧ t2.deep ≤ t.deep + 1 ∧ t2.pairs = t.pairs + 1 := by
          have tp := Trm.deep_pos t
          by_cases h7 : kind = 6
          · subst h7
            exact ⟨.pair t1 t, at0, ⟨h4, o1⟩, by simp only [Trm.deep]; omega, by simp only [Trm.pairs]; omega⟩
          · have : kind = 7 := by omega
            subst this
            exact ⟨.pair t t1, at1, ⟨o1, h4⟩, by simp only [Trm.deep]; omega, by simp only [Trm.pairs]; omega⟩
        obtain ⟨t2, e, o2, d2, p2⟩ := hv
        simp only [e]
        exact hnx _ _ (Fg.drop1 w hp ⟨t2, _, _, rfl, rfl, o2, by omega, by omega⟩)
      · rintro _ _ ⟨t, x5, x6, rfl, rfl, o1, b1, b2⟩
        refine ⟨trivial, .keep ?_⟩
        simp only [aNext, aAsg, aName, aVar, slot, put, aC, aOp, aUn, aTest, aChain, aAnd, aOr, aNot, aAndV, aOrV, aNotV, aIf, aNil, aCons, aTup, aLst, aCB, aBM, aSl, aPart, aNoPart, aDrop, aRet, aIfS, aPar, aAug, aSub, aUnp, aGNil, aGCons, aCall, aYes, aNilEq, aJoin, wRange1, wAny, wStr, wEnum, wEnumD, wKeys, wVals, wItems, lkAt, aLc, aDc, aDc2, aDNew, aRev, aSetd, aGet1, aGet2, isD, dAt, Ab.keyOf, wipeA, List.set_cons_zero, List.set_cons_succ, asStrs_map, bSub, bAdd, bIAdd, bNeg, bIx, bSl, bInt, bSet, bPop, bInsert, bAppend, bExtend, bML, bEqB, bIsB, bInB, one, bLen, bList, bTuple, bSum, bToInt, bIsi, bRepr, bDict, bSorted, bMax, bAny, bAll, asBls_map, bMulL, aDispF, aSortSet, aListVals, aCallK, tyA, at0, at1, at2, at3, ixL0, ixL1, ixL2, set0, set1, set2, updA_same, updA_twice, List.append_nil, List.cons_append, List.nil_append, id_eq]
        exact Fin.same (k t o1 (by simpa using b1) (by simpa using b2))
    · rw [if_neg (by simpa using h6)]
      refine .keep ?_
      simp only [aNext, aAsg, aName, aVar, slot, put, aC, aOp, aUn, aTest, aChain, aAnd, aOr, aNot, aAndV, aOrV, aNotV, aIf, aNil, aCons, aTup, aLst, aCB, aBM, aSl, aPart, aNoPart, aDrop, aRet, aIfS, aPar, aAug, aSub, aUnp, aGNil, aGCons, aCall, aYes, aNilEq, aJoin, wRange1, wAny, wStr, wEnum, wEnumD, wKeys, wVals, wItems, lkAt, aLc, aDc, aDc2, aDNew, aRev, aSetd, aGet1, aGet2, isD, dAt, Ab.keyOf, wipeA, List.set_cons_zero, List.set_cons_succ, asStrs_map, bSub, bAdd, bIAdd, bNeg, bIx, bSl, bInt, bSet, bPop, bInsert, bAppend, bExtend, bML, bEqB, bIsB, bInB, one, bLen, bList, bTuple, bSum, bToInt, bIsi, bRepr, bDict, bSorted, bMax, bAny, bAll, asBls_map, bMulL, aDispF, aSortSet, aListVals, aCallK, tyA, at0, at1, at2, at3, ixL0, ixL1, ixL2, set0, set1, set2, updA_same, updA_twice, List.append_nil, List.cons_append, List.nil_append, id_eq, spDraw]
      refine ⟨sz (by simp), fun p hp => ⟨⟨c, updA_keep hp hd⟩, by decide, by decide, fun r r0 r1 => ?_⟩⟩
      obtain ⟨x, e, hx⟩ := at_lt (xs := [AV.int 2, AV.int 3, AV.int 5]) r0 r1
      have hx : ∃ v : Int, x = .int v ∧ v ≤ 5 := by
        simp only [List.mem_cons, List.not_mem_nil, or_false] at hx
        rcases hx with rfl | rfl | rfl <;> exact ⟨_, rfl, by decide⟩
      obtain ⟨v, rfl, hv⟩ := hx
      simp only [e]
      refine ⟨sz (by simp), fun p2 hp2 => ⟨⟨c, updA_keep hp2 (updA_keep hp hd)⟩, by decide, by decide, fun s s0 s1 => ?_⟩⟩
      obtain ⟨y, e2, hy⟩ := at_lt (xs := [AV.int 2, AV.int 6, AV.int 12]) s0 s1
      have hy : ∃ v : Int, y = .int v ∧ v ≤ 12 ∧ 0 ≤ v := by
        simp only [List.mem_cons, List.not_mem_nil, or_false] at hy
        rcases hy with rfl | rfl | rfl <;> exact ⟨_, rfl, by decide, by decide⟩
      obtain ⟨l, rfl, hl, hl0⟩ := hy
      simp only [e2]
      refine ⟨sz (by simp), fun p3 hp3 => ?_⟩
      have S3 := ((S.keep hp (o := .lst [.int 2, .int 3, .int 5])).keep hp2 (o := .lst [.int 2, .int 6, .int 12])).keep hp3 (o := .lst [.int l])
      have w3 := ((w.free hp (o := .lst [.int 2, .int 3, .int 5]) (fun c e => by cases e)).free hp2 (o := .lst [.int 2, .int 6, .int 12]) (fun c e => by cases e)).free hp3 (o := .lst [.int l]) (fun c e => by cases e)
      have sub := ((Sub.refl (m := m)).alloc hp (o := .lst [.int 2, .int 3, .int 5])).alloc hp2 (o := .lst [.int 2, .int 6, .int 12])
      have n1 : ws ≠ p3 := fun e => by rw [← e, sub _ _ S.w] at hp3; cases hp3
      have n2 : us ≠ p3 := fun e => by rw [← e, sub _ _ S.u] at hp3; cases hp3
      refine ⟨w3, ⟨c, updA_keep hp3 (updA_keep hp2 (updA_keep hp hd))⟩, by omega, W, U, S3, n1, n2, l, updA_same, fun t l' o de pr z => ?_⟩
      exact Fin.pure w ((sub.alloc hp3 (o := .lst [.int l])).over (sub.none hp3)) (k t o (by omega) (by omega))
  · exact h.elim
end K01

namespace K01
open PySem PySem.Spec PyProof.Rows L2 Ab
variable {K : PySem.W.Frag}
def spWordD : ASp := fun xs m q => match xs with
  | [x] => Own m ∧ ∃ d, OdAt m d x ∧ d.weight ≤ 390000 ∧ q (.bl (isWordD d)) m
  | _ => False
theorem word_of {z : Str} : isWord z = (decide ((1 : Int) ≤ (z.length : Int)) && (decide ((z.length : Int) ≤ 8) && z.cps.toList.all fun c => decide (97 ≤ c ∧ c ≤ 122))) := by
  have e1 : decide ((1 : Int) ≤ (z.length : Int)) = decide (1 ≤ z.length) := decide_eq_decide.mpr (by omega)
  have e2 : decide ((z.length : Int) ≤ 8) = decide (z.length ≤ 8) := decide_eq_decide.mpr (by omega)
  have e3 : (fun c : Nat => decide (97 ≤ c ∧ c ≤ 122)) = fun c => decide (97 ≤ c) && decide (c ≤ 122) := by
    funext c
    exact Bool.decide_and ..
  rw [e1, e2, e3]
  unfold isWord
  rw [Bool.and_assoc]
theorem str_size {z : Str} : (PyData.str z).weight = z.length := by
  simp only [PyData.weight]
  rfl
theorem r_is_word : Reads K n_is_word (t_is_word K) spWordD := by
  intro H xs m q h g
  unfold spWordD at h
  split at h
  · rename_i x
    obtain ⟨w, d, od, hw, k⟩ := h
    refine ⟨_, g, ?_⟩
    rw [show startA n_is_word [x] = [some x, none] from rfl]
    unfold t_is_word
    refine seq_i ?_
    simp only [aNext, aAsg, aName, aVar, slot, put, aC, aOp, aUn, aTest, aChain, aAnd, aOr, aNot, aAndV, aOrV, aNotV, aIf, aNil, aCons, aTup, aLst, aCB, aBM, aSl, aPart, aNoPart, aDrop, aRet, aIfS, aPar, aAug, aSub, aUnp, aGNil, aGCons, aCall, aYes, aNilEq, aJoin, wRange1, wAny, wStr, wEnum, wEnumD, wKeys, wVals, wItems, lkAt, aLc, aDc, aDc2, aDNew, aRev, aSetd, aGet1, aGet2, isD, dAt, Ab.keyOf, wipeA, List.set_cons_zero, List.set_cons_succ, asStrs_map, bSub, bAdd, bIAdd, bNeg, bIx, bSl, bInt, bSet, bPop, bInsert, bAppend, bExtend, bML, bIsB, one, bLen, bList, bTuple, bSum, bToInt, bDict, bSorted, bMax, bAny, bAll, asBls_map, bMulL, aDispF, aSortSet, aListVals, aCallK, tyA, at0, at1, at2, at3, ixL0, ixL1, ixL2, set0, set1, set2, updA_same, updA_twice, List.append_nil, List.cons_append, List.nil_append, id_eq, isiS_d od]
    cases hs : isStrD d with
    | false =>
      have e : isWordD d = false := by cases d <;> first | rfl | cases hs
      rw [e] at k
      simp only [Bool.not_false, if_true]
      exact Fin.same k
    | true =>
      cases od with
      | str z =>
        rw [str_size] at hw
        have k : q (.bl (isWord z)) m := k
        rw [word_of] at k
        simp only [Bool.not_true, if_neg Bool.false_ne_true]
        refine ⟨sz (by omega), ?_⟩
        cases h1 : decide ((1 : Int) ≤ (z.length : Int)) with
        | false =>
          rw [h1] at k
          simp only [Bool.not_false, if_true]
          exact ⟨trivial, Fin.same k⟩
        | true =>
          rw [h1] at k
          cases h2 : decide ((z.length : Int) ≤ 8) with
          | false =>
            rw [h2] at k
            simp only [Bool.not_false, if_true]
            exact ⟨trivial, trivial, Fin.same k⟩
          | true =>
            rw [h2] at k
            simp only [Bool.not_true, if_neg Bool.false_ne_true]
            refine ⟨trivial, trivial, .keep ?_⟩
            simp only [aNext, aAsg, aName, aVar, slot, put, aC, aOp, aUn, aTest, aChain, aAnd, aOr, aNot, aAndV, aOrV, aNotV, aIf, aNil, aCons, aTup, aLst, aCB, aBM, aSl, aPart, aNoPart, aDrop, aRet, aIfS, aPar, aAug, aSub, aUnp, aGNil, aGCons, aCall, aYes, aNilEq, aJoin, wRange1, wAny, wStr, wEnum, wEnumD, wKeys, wVals, wItems, lkAt, aLc, aDc, aDc2, aDNew, aRev, aSetd, aGet1, aGet2, isD, dAt, Ab.keyOf, wipeA, List.set_cons_zero, List.set_cons_succ, asStrs_map, bSub, bAdd, bIAdd, bNeg, bIx, bSl, bInt, bSet, bPop, bInsert, bAppend, bExtend, bML, bIsB, one, bLen, bList, bTuple, bSum, bToInt, bDict, bSorted, bMax, bAny, bAll, asBls_map, bMulL, aDispF, aSortSet, aListVals, aCallK, tyA, at0, at1, at2, at3, ixL0, ixL1, ixL2, set0, set1, set2, updA_same, updA_twice, List.append_nil, List.cons_append, List.nil_append, id_eq]
            intro D hD
            unfold lettersA
            refine lc_mapT (fun c => AV.str ⟨#[c]⟩) (fun c => AV.bl (decide (97 ≤ c ∧ c ≤ 122))) (fun _ => trivial) z.cps.toList (fun c hc acc k2 hk2 => ?_) ?_ ?_
            · simp only [aNext, aAsg, aName, aVar, slot, put, aC, aOp, aUn, aTest, aChain, aAnd, aOr, aNot, aAndV, aOrV, aNotV, aIf, aNil, aCons, aTup, aLst, aCB, aBM, aSl, aPart, aNoPart, aDrop, aRet, aIfS, aPar, aAug, aSub, aUnp, aGNil, aGCons, aCall, aYes, aNilEq, aJoin, wRange1, wAny, wStr, wEnum, wEnumD, wKeys, wVals, wItems, lkAt, aLc, aDc, aDc2, aDNew, aRev, aSetd, aGet1, aGet2, isD, dAt, Ab.keyOf, wipeA, List.set_cons_zero, List.set_cons_succ, asStrs_map, bSub, bAdd, bIAdd, bNeg, bIx, bSl, bInt, bSet, bPop, bInsert, bAppend, bExtend, bML, bIsB, one, bLen, bList, bTuple, bSum, bToInt, bDict, bSorted, bMax, bAny, bAll, asBls_map, bMulL, aDispF, aSortSet, aListVals, aCallK, tyA, at0, at1, at2, at3, ixL0, ixL1, ixL2, set0, set1, set2, updA_same, updA_twice, List.append_nil, List.cons_append, List.nil_append, id_eq, in_abc, id_eq]
              exact .keep hk2
            · rw [← str_len]
              exact (show _ < 16777216 by omega)
            · have e : (z.cps.toList.map fun c => AV.bl (decide (97 ≤ c ∧ c ≤ 122))) = (z.cps.toList.map fun c => decide (97 ≤ c ∧ c ≤ 122)).map AV.bl := by rw [List.map_map]; rfl
              have e2 : (z.cps.toList.map fun c => decide (97 ≤ c ∧ c ≤ 122)).all id = z.cps.toList.all fun c => decide (97 ≤ c ∧ c ≤ 122) := by rw [List.all_map]; rfl
              simp only [updA_same, e, asBls_map, e2]
              exact Fin.pure w (Sub.refl.new hD) k
      | _ => cases hs
  · exact h.elim
theorem all_none (p : Nat → Bool) : ∀ cs : List Nat, (cs.filterMap fun c => if p c then none else some (AV.str ⟨#[c]⟩)).isEmpty = cs.all p
  | [] => rfl
  | c :: cs => by
    cases h : p c with
    | true =>
      rw [List.filterMap_cons_none (by rw [h]; rfl), List.all_cons, h, all_none p cs]
      rfl
    | false =>
      rw [List.filterMap_cons_some (b := AV.str ⟨#[c]⟩) (by rw [h]; rfl), List.all_cons, h]
      rfl
theorem r__law_is_word : Reads K n__law_is_word (t__law_is_word K) spWordD := by
  intro H xs m q h g
  unfold spWordD at h
  split at h
  · rename_i x
    obtain ⟨w, d, od, hw, k⟩ := h
    refine ⟨_, g, ?_⟩
    rw [show startA n__law_is_word [x] = [some x, none] from rfl]
    unfold t__law_is_word
    refine seq_i ?_
    simp only [aNext, aAsg, aName, aVar, slot, put, aC, aOp, aUn, aTest, aChain, aAnd, aOr, aNot, aAndV, aOrV, aNotV, aIf, aNil, aCons, aTup, aLst, aCB, aBM, aSl, aPart, aNoPart, aDrop, aRet, aIfS, aPar, aAug, aSub, aUnp, aGNil, aGCons, aCall, aYes, aNilEq, aJoin, wRange1, wAny, wStr, wEnum, wEnumD, wKeys, wVals, wItems, lkAt, aLc, aDc, aDc2, aDNew, aRev, aSetd, aGet1, aGet2, isD, dAt, Ab.keyOf, wipeA, List.set_cons_zero, List.set_cons_succ, asStrs_map, bSub, bAdd, bIAdd, bNeg, bIx, bSl, bInt, bSet, bPop, bInsert, bAppend, bExtend, bML, bIsB, one, bLen, bList, bTuple, bSum, bToInt, bDict, bSorted, bMax, bAny, bAll, asBls_map, bMulL, aDispF, aSortSet, aListVals, aCallK, tyA, at0, at1, at2, at3, ixL0, ixL1, ixL2, set0, set1, set2, updA_same, updA_twice, List.append_nil, List.cons_append, List.nil_append, id_eq, isiS_d od]
    cases hs : isStrD d with
    | false =>
      have e : isWordD d = false := by cases d <;> first | rfl | cases hs
      rw [e] at k
      simp only [Bool.not_false, if_true]
      exact Fin.same k
    | true =>
      cases od with
      | str z =>
        rw [str_size] at hw
        have k : q (.bl (isWord z)) m := k
        rw [word_of] at k
        simp only [Bool.not_true, if_neg Bool.false_ne_true]
        refine ⟨sz (by omega), ?_⟩
        cases h1 : decide ((1 : Int) ≤ (z.length : Int)) with
        | false =>
          rw [h1] at k
          simp only [Bool.not_false, if_true]
          exact ⟨trivial, Fin.same k⟩
        | true =>
          rw [h1] at k
          cases h2 : decide ((z.length : Int) ≤ 8) with
          | false =>
            rw [h2] at k
            simp only [Bool.not_false, if_true]
            exact ⟨trivial, trivial, Fin.same k⟩
          | true =>
            rw [h2] at k
            simp only [Bool.not_true, if_neg Bool.false_ne_true]
            refine ⟨trivial, trivial, .keep ?_⟩
            simp only [aNext, aAsg, aName, aVar, slot, put, aC, aOp, aUn, aTest, aChain, aAnd, aOr, aNot, aAndV, aOrV, aNotV, aIf, aNil, aCons, aTup, aLst, aCB, aBM, aSl, aPart, aNoPart, aDrop, aRet, aIfS, aPar, aAug, aSub, aUnp, aGNil, aGCons, aCall, aYes, aNilEq, aJoin, wRange1, wAny, wStr, wEnum, wEnumD, wKeys, wVals, wItems, lkAt, aLc, aDc, aDc2, aDNew, aRev, aSetd, aGet1, aGet2, isD, dAt, Ab.keyOf, wipeA, List.set_cons_zero, List.set_cons_succ, asStrs_map, bSub, bAdd, bIAdd, bNeg, bIx, bSl, bInt, bSet, bPop, bInsert, bAppend, bExtend, bML, bIsB, one, bLen, bList, bTuple, bSum, bToInt, bDict, bSorted, bMax, bAny, bAll, asBls_map, bMulL, aDispF, aSortSet, aListVals, aCallK, tyA, at0, at1, at2, at3, ixL0, ixL1, ixL2, set0, set1, set2, updA_same, updA_twice, List.append_nil, List.cons_append, List.nil_append, id_eq]
            intro D hD
            unfold lettersA
            refine lc_fmT (fun c => AV.str ⟨#[c]⟩) (fun c => if decide (97 ≤ c ∧ c ≤ 122) then none else some (AV.str ⟨#[c]⟩)) (fun _ => trivial) z.cps.toList [] (fun c hc acc k2 hk2 => ?_) ?_ ?_
            · simp only [aNext, aAsg, aName, aVar, slot, put, aC, aOp, aUn, aTest, aChain, aAnd, aOr, aNot, aAndV, aOrV, aNotV, aIf, aNil, aCons, aTup, aLst, aCB, aBM, aSl, aPart, aNoPart, aDrop, aRet, aIfS, aPar, aAug, aSub, aUnp, aGNil, aGCons, aCall, aYes, aNilEq, aJoin, wRange1, wAny, wStr, wEnum, wEnumD, wKeys, wVals, wItems, lkAt, aLc, aDc, aDc2, aDNew, aRev, aSetd, aGet1, aGet2, isD, dAt, Ab.keyOf, wipeA, List.set_cons_zero, List.set_cons_succ, asStrs_map, bSub, bAdd, bIAdd, bNeg, bIx, bSl, bInt, bSet, bPop, bInsert, bAppend, bExtend, bML, bIsB, one, bLen, bList, bTuple, bSum, bToInt, bDict, bSorted, bMax, bAny, bAll, asBls_map, bMulL, aDispF, aSortSet, aListVals, aCallK, tyA, at0, at1, at2, at3, ixL0, ixL1, ixL2, set0, set1, set2, updA_same, updA_twice, List.append_nil, List.cons_append, List.nil_append, id_eq]
              show bInB not (.str ⟨#[c]⟩) (.str (Str.ofString "abcdefghijklmnopqrstuvwxyz")) _ _
              rw [in_abc]
              cases hc2 : decide (97 ≤ c ∧ c ≤ 122) with
              | true =>
                rw [hc2] at hk2
                simp only [Bool.not_true, if_neg Bool.false_ne_true]
                exact .keep hk2
              | false =>
                rw [hc2] at hk2
                simp only [Bool.not_false, if_true]
                exact .keep hk2
            · rw [← str_len]
              exact (show 0 + _ < 16777216 by omega)
            · simp only [updA_same, List.nil_append, all_none]
              exact Fin.pure w (Sub.refl.new hD) k
      | _ => cases hs
  · exact h.elim
def spWholeD : ASp := fun xs m q => match xs with
  | [x] => ∃ d, OdAt m d x ∧ q (.bl (isWholeD d)) m
  | _ => False
theorem r_is_whole : Reads K n_is_whole (t_is_whole K) spWholeD := by
  intro H xs m q h g
  unfold spWholeD at h
  split at h
  · rename_i x
    obtain ⟨d, od, k⟩ := h
    refine ⟨_, g, ?_⟩
    rw [show startA n_is_whole [x] = [some x] from rfl]
    unfold t_is_whole
    unfold isWholeD at k
    simp only [aNext, aAsg, aName, aVar, slot, put, aC, aOp, aUn, aTest, aChain, aAnd, aOr, aNot, aAndV, aOrV, aNotV, aIf, aNil, aCons, aTup, aLst, aCB, aBM, aSl, aPart, aNoPart, aDrop, aRet, aIfS, aPar, aAug, aSub, aUnp, aGNil, aGCons, aCall, aYes, aNilEq, aJoin, wRange1, wAny, wStr, wEnum, wEnumD, wKeys, wVals, wItems, lkAt, aLc, aDc, aDc2, aDNew, aRev, aSetd, aGet1, aGet2, isD, dAt, Ab.keyOf, wipeA, List.set_cons_zero, List.set_cons_succ, asStrs_map, bSub, bAdd, bIAdd, bNeg, bIx, bSl, bInt, bSet, bPop, bInsert, bAppend, bExtend, bML, bIsB, one, bLen, bList, bTuple, bSum, bToInt, bDict, bSorted, bMax, bAny, bAll, asBls_map, bMulL, aDispF, aSortSet, aListVals, aCallK, tyA, at0, at1, at2, at3, ixL0, ixL1, ixL2, set0, set1, set2, updA_same, updA_twice, List.append_nil, List.cons_append, List.nil_append, id_eq, isiI_d od]
    cases hs : isIntD d with
    | false =>
      rw [hs] at k
      exact Fin.same k
    | true =>
      rw [hs] at k
      simp only [aNext, aAsg, aName, aVar, slot, put, aC, aOp, aUn, aTest, aChain, aAnd, aOr, aNot, aAndV, aOrV, aNotV, aIf, aNil, aCons, aTup, aLst, aCB, aBM, aSl, aPart, aNoPart, aDrop, aRet, aIfS, aPar, aAug, aSub, aUnp, aGNil, aGCons, aCall, aYes, aNilEq, aJoin, wRange1, wAny, wStr, wEnum, wEnumD, wKeys, wVals, wItems, lkAt, aLc, aDc, aDc2, aDNew, aRev, aSetd, aGet1, aGet2, isD, dAt, Ab.keyOf, wipeA, List.set_cons_zero, List.set_cons_succ, asStrs_map, bSub, bAdd, bIAdd, bNeg, bIx, bSl, bInt, bSet, bPop, bInsert, bAppend, bExtend, bML, bIsB, one, bLen, bList, bTuple, bSum, bToInt, bDict, bSorted, bMax, bAny, bAll, asBls_map, bMulL, aDispF, aSortSet, aListVals, aCallK, tyA, at0, at1, at2, at3, ixL0, ixL1, ixL2, set0, set1, set2, updA_same, updA_twice, List.append_nil, List.cons_append, List.nil_append, id_eq, isiB_d od]
      exact Fin.same k
  · exact h.elim
theorem r__law_whole : Reads K n__law_whole (t__law_whole K) spWholeD := by
  intro H xs m q h g
  unfold spWholeD at h
  split at h
  · rename_i x
    obtain ⟨d, od, k⟩ := h
    refine ⟨_, g, ?_⟩
    rw [show startA n__law_whole [x] = [some x] from rfl]
    unfold t__law_whole
    unfold isWholeD at k
    simp only [aNext, aAsg, aName, aVar, slot, put, aC, aOp, aUn, aTest, aChain, aAnd, aOr, aNot, aAndV, aOrV, aNotV, aIf, aNil, aCons, aTup, aLst, aCB, aBM, aSl, aPart, aNoPart, aDrop, aRet, aIfS, aPar, aAug, aSub, aUnp, aGNil, aGCons, aCall, aYes, aNilEq, aJoin, wRange1, wAny, wStr, wEnum, wEnumD, wKeys, wVals, wItems, lkAt, aLc, aDc, aDc2, aDNew, aRev, aSetd, aGet1, aGet2, isD, dAt, Ab.keyOf, wipeA, List.set_cons_zero, List.set_cons_succ, asStrs_map, bSub, bAdd, bIAdd, bNeg, bIx, bSl, bInt, bSet, bPop, bInsert, bAppend, bExtend, bML, bIsB, one, bLen, bList, bTuple, bSum, bToInt, bDict, bSorted, bMax, bAny, bAll, asBls_map, bMulL, aDispF, aSortSet, aListVals, aCallK, tyA, at0, at1, at2, at3, ixL0, ixL1, ixL2, set0, set1, set2, updA_same, updA_twice, List.append_nil, List.cons_append, List.nil_append, id_eq, isiI_d od]
    cases hs : isIntD d with
    | false =>
      rw [hs] at k
      exact Fin.same k
    | true =>
      rw [hs] at k
      simp only [aNext, aAsg, aName, aVar, slot, put, aC, aOp, aUn, aTest, aChain, aAnd, aOr, aNot, aAndV, aOrV, aNotV, aIf, aNil, aCons, aTup, aLst, aCB, aBM, aSl, aPart, aNoPart, aDrop, aRet, aIfS, aPar, aAug, aSub, aUnp, aGNil, aGCons, aCall, aYes, aNilEq, aJoin, wRange1, wAny, wStr, wEnum, wEnumD, wKeys, wVals, wItems, lkAt, aLc, aDc, aDc2, aDNew, aRev, aSetd, aGet1, aGet2, isD, dAt, Ab.keyOf, wipeA, List.set_cons_zero, List.set_cons_succ, asStrs_map, bSub, bAdd, bIAdd, bNeg, bIx, bSl, bInt, bSet, bPop, bInsert, bAppend, bExtend, bML, bIsB, one, bLen, bList, bTuple, bSum, bToInt, bDict, bSorted, bMax, bAny, bAll, asBls_map, bMulL, aDispF, aSortSet, aListVals, aCallK, tyA, at0, at1, at2, at3, ixL0, ixL1, ixL2, set0, set1, set2, updA_same, updA_twice, List.append_nil, List.cons_append, List.nil_append, id_eq, isiB_d od]
      exact Fin.same k
  · exact h.elim
def spMarkedD : ASp := fun xs m q => match xs with
  | [.tup (x :: y :: [])] => ∃ d, OdAt m d x ∧ q (.bl (isMarkD d)) m
  | _ => False
theorem r_is_marked : Reads K n_is_marked (t_is_marked K) spMarkedD := by
  intro H xs m q h g
  unfold spMarkedD at h
  split at h
  · rename_i x y
    obtain ⟨d, od, k⟩ := h
    refine ⟨_, g, ?_⟩
    rw [show startA n_is_marked [.tup [x, y]] = [some (.tup [x, y])] from rfl]
    unfold t_is_marked
    simp only [aNext, aAsg, aName, aVar, slot, put, aC, aOp, aUn, aTest, aChain, aAnd, aOr, aNot, aAndV, aOrV, aNotV, aIf, aNil, aCons, aTup, aLst, aCB, aBM, aSl, aPart, aNoPart, aDrop, aRet, aIfS, aPar, aAug, aSub, aUnp, aGNil, aGCons, aCall, aYes, aNilEq, aJoin, wRange1, wAny, wStr, wEnum, wEnumD, wKeys, wVals, wItems, lkAt, aLc, aDc, aDc2, aDNew, aRev, aSetd, aGet1, aGet2, isD, dAt, Ab.keyOf, wipeA, List.set_cons_zero, List.set_cons_succ, asStrs_map, bSub, bAdd, bIAdd, bNeg, bIx, bSl, bInt, bSet, bPop, bInsert, bAppend, bExtend, bML, bIsB, one, bLen, bList, bTuple, bSum, bToInt, bDict, bSorted, bMax, bAny, bAll, asBls_map, bMulL, aDispF, aSortSet, aListVals, aCallK, tyA, at0, at1, at2, at3, ixL0, ixL1, ixL2, set0, set1, set2, updA_same, updA_twice, List.append_nil, List.cons_append, List.nil_append, id_eq, isiS_d od]
    cases od <;> simp only [isStrD, isMarkD, bq_str, id_eq] at k ⊢ <;> exact Fin.same k
  · exact h.elim
end K01

namespace K01
open PySem PySem.Spec PyProof.Rows L2 Ab
variable {K : PySem.W.Frag}
def spIsTerm : ASp := fun xs m q => match xs with
  | [x] => Own m ∧ ∃ d, OdAt m d x ∧ d.weight ≤ 390000 ∧ q (.bl (isTermD d)) m
  | _ => False
theorem nontup_term {d : PyData} (h : isTupD d = false) : isTermD d = (isWholeD d || isWordD d) := by
  cases d <;> first | rfl | cases h | simp [isTermD, isWholeD, isIntD, isBoolD, isWordD]
theorem whole_nat {d : PyData} : isNatD d = (isWholeD d && isNatD d) := by
  cases d <;> rfl
theorem eq0_tup {f : Bool → Bool} {zs : List AV} {m : AHp} {q : AK} : bEq0 f (.tup zs) (.tup []) m q = q (.bl (f zs.isEmpty)) m := rfl
theorem nol (ys : List AV) (c : Addr) : AO.lst ys ≠ .deck c := fun e => by cases e
theorem r_is_term : Reads K n_is_term (t_is_term K spMarkedD spWholeD spWordD) spIsTerm := by
  intro H xs m q h g
  unfold spIsTerm at h
  split at h
  · rename_i x
    obtain ⟨w, d, od, hw, k⟩ := h
    refine ⟨_, g, ?_⟩
    rw [show startA n_is_term [x] = [some x, none, none, none, none] from rfl]
    unfold t_is_term
    refine seq_i ?_
    simp only [aNext, aAsg, aName, aVar, slot, put, aC, aOp, aUn, aTest, aChain, aAnd, aOr, aNot, aAndV, aOrV, aNotV, aIf, aNil, aCons, aTup, aLst, aCB, aBM, aSl, aPart, aNoPart, aDrop, aRet, aIfS, aPar, aAug, aSub, aUnp, aGNil, aGCons, aCall, aYes, aNilEq, aJoin, wRange1, wAny, wStr, wEnum, wEnumD, wKeys, wVals, wItems, lkAt, aLc, aDc, aDc2, aDNew, aRev, aSetd, aGet1, aGet2, isD, dAt, Ab.keyOf, wipeA, List.set_cons_zero, List.set_cons_succ, asStrs_map, bSub, bAdd, bIAdd, bNeg, bIx, bSl, bInt, bSet, bPop, bInsert, bAppend, bExtend, bML, bIsB, one, bLen, bList, bTuple, bSum, bToInt, bDict, bSorted, bMax, bAny, bAll, asBls_map, bMulL, aDispF, aSortSet, aListVals, aCallK, tyA, at0, at1, at2, at3, ixL0, ixL1, ixL2, set0, set1, set2, updA_same, updA_twice, List.append_nil, List.cons_append, List.nil_append, id_eq]
    refine ⟨sz (by simp), fun wt hwt => .keep ?_⟩
    refine seq_i ?_
    have wW := fun ys : List AV => w.free hwt (nol ys)
    have sW := fun ys : List AV => Sub.refl.new hwt (o := AO.lst ys)
    have c0 := cntD_le d
    refine while_inv (fun n a' m' => ∃ (ds : List PyData) (ys : List AV) (x2 x3 x4 : Option AV), a' = [some x, some (.ref wt), x2, x3, x4] ∧ m' = updA m wt (.lst ys) ∧ OdsAt m ds ys ∧ ds.all isTermD = isTermD d ∧ n = cntsD ds ∧ cntsD ds ≤ 390001 ∧ ∀ e ∈ ds, e.weight ≤ 390000) ?_ (cntsD [d]) _ _ ⟨[d], [x], _, _, _, rfl, rfl, .cons od .nil, by simp, rfl, by simp only [cntsD]; omega, fun e he => by rw [List.mem_singleton.mp he]; exact hw⟩
    rintro n _ _ ⟨ds, ys, x2, x3, x4, rfl, rfl, ods, et, rfl, hb, hws⟩ k2 hk
    rcases List.eq_nil_or_concat ds with rfl | ⟨es, e, rfl⟩
    · cases ods
      simp only [aNext, aAsg, aName, aVar, slot, put, aC, aOp, aUn, aTest, aChain, aAnd, aOr, aNot, aAndV, aOrV, aNotV, aIf, aNil, aCons, aTup, aLst, aCB, aBM, aSl, aPart, aNoPart, aDrop, aRet, aIfS, aPar, aAug, aSub, aUnp, aGNil, aGCons, aCall, aYes, aNilEq, aJoin, wRange1, wAny, wStr, wEnum, wEnumD, wKeys, wVals, wItems, lkAt, aLc, aDc, aDc2, aDNew, aRev, aSetd, aGet1, aGet2, isD, dAt, Ab.keyOf, wipeA, List.set_cons_zero, List.set_cons_succ, asStrs_map, bSub, bAdd, bIAdd, bNeg, bIx, bSl, bInt, bSet, bPop, bInsert, bAppend, bExtend, bML, bIsB, one, bLen, bList, bTuple, bSum, bToInt, bDict, bSorted, bMax, bAny, bAll, asBls_map, bMulL, aDispF, aSortSet, aListVals, aCallK, tyA, at0, at1, at2, at3, ixL0, ixL1, ixL2, set0, set1, set2, updA_same, updA_twice, List.append_nil, List.cons_append, List.nil_append, id_eq, List.isEmpty_nil, Bool.not_true, if_neg Bool.false_ne_true]
      refine .keep ?_
      simp only [aNext, aAsg, aName, aVar, slot, put, aC, aOp, aUn, aTest, aChain, aAnd, aOr, aNot, aAndV, aOrV, aNotV, aIf, aNil, aCons, aTup, aLst, aCB, aBM, aSl, aPart, aNoPart, aDrop, aRet, aIfS, aPar, aAug, aSub, aUnp, aGNil, aGCons, aCall, aYes, aNilEq, aJoin, wRange1, wAny, wStr, wEnum, wEnumD, wKeys, wVals, wItems, lkAt, aLc, aDc, aDc2, aDNew, aRev, aSetd, aGet1, aGet2, isD, dAt, Ab.keyOf, wipeA, List.set_cons_zero, List.set_cons_succ, asStrs_map, bSub, bAdd, bIAdd, bNeg, bIx, bSl, bInt, bSet, bPop, bInsert, bAppend, bExtend, bML, bIsB, one, bLen, bList, bTuple, bSum, bToInt, bDict, bSorted, bMax, bAny, bAll, asBls_map, bMulL, aDispF, aSortSet, aListVals, aCallK, tyA, at0, at1, at2, at3, ixL0, ixL1, ixL2, set0, set1, set2, updA_same, updA_twice, List.append_nil, List.cons_append, List.nil_append, id_eq]
      have et : isTermD d = true := by simpa using et.symm
      rw [et] at k
      exact Fin.pure w (sW _) k
    · rw [List.concat_eq_append] at ods et hb hws hk
      obtain ⟨zs, y, rfl, ods2, ody⟩ := ods.concat
      have e3 : (zs ++ [y]).isEmpty = false := by simp
      simp only [aNext, aAsg, aName, aVar, slot, put, aC, aOp, aUn, aTest, aChain, aAnd, aOr, aNot, aAndV, aOrV, aNotV, aIf, aNil, aCons, aTup, aLst, aCB, aBM, aSl, aPart, aNoPart, aDrop, aRet, aIfS, aPar, aAug, aSub, aUnp, aGNil, aGCons, aCall, aYes, aNilEq, aJoin, wRange1, wAny, wStr, wEnum, wEnumD, wKeys, wVals, wItems, lkAt, aLc, aDc, aDc2, aDNew, aRev, aSetd, aGet1, aGet2, isD, dAt, Ab.keyOf, wipeA, List.set_cons_zero, List.set_cons_succ, asStrs_map, bSub, bAdd, bIAdd, bNeg, bIx, bSl, bInt, bSet, bPop, bInsert, bAppend, bExtend, bML, bIsB, one, bLen, bList, bTuple, bSum, bToInt, bDict, bSorted, bMax, bAny, bAll, asBls_map, bMulL, aDispF, aSortSet, aListVals, aCallK, tyA, at0, at1, at2, at3, ixL0, ixL1, ixL2, set0, set1, set2, updA_same, updA_twice, List.append_nil, List.cons_append, List.nil_append, id_eq, e3, Bool.not_false, if_true]
      refine seq_i ?_
      simp only [aNext, aAsg, aName, aVar, slot, put, aC, aOp, aUn, aTest, aChain, aAnd, aOr, aNot, aAndV, aOrV, aNotV, aIf, aNil, aCons, aTup, aLst, aCB, aBM, aSl, aPart, aNoPart, aDrop, aRet, aIfS, aPar, aAug, aSub, aUnp, aGNil, aGCons, aCall, aYes, aNilEq, aJoin, wRange1, wAny, wStr, wEnum, wEnumD, wKeys, wVals, wItems, lkAt, aLc, aDc, aDc2, aDNew, aRev, aSetd, aGet1, aGet2, isD, dAt, Ab.keyOf, wipeA, List.set_cons_zero, List.set_cons_succ, asStrs_map, bSub, bAdd, bIAdd, bNeg, bIx, bSl, bInt, bSet, bPop, bInsert, bAppend, bExtend, bML, bIsB, one, bLen, bList, bTuple, bSum, bToInt, bDict, bSorted, bMax, bAny, bAll, asBls_map, bMulL, aDispF, aSortSet, aListVals, aCallK, tyA, at0, at1, at2, at3, ixL0, ixL1, ixL2, set0, set1, set2, updA_same, updA_twice, List.append_nil, List.cons_append, List.nil_append, id_eq, List.getLast?_concat, List.dropLast_concat]
      refine ⟨⟨_, _, rfl, updA_same⟩, .keep ?_⟩
      have wey := hws e (List.mem_append_right _ List.mem_cons_self)
      rw [cntsD_app] at hb hk
      simp only [cntsD, Nat.add_zero] at hb hk
      have ce := cntD_pos e
      rw [List.all_append] at et
      simp only [List.all_cons, List.all_nil, Bool.and_true] at et
      have nx : ∀ x3' x4', isTermD e = true → k2 [some x, some (.ref wt), some y, x3', x4'] (updA m wt (.lst zs)) := fun x3' x4' he => hk (cntsD es) _ _ (by omega) (.keep ⟨es, zs, _, _, _, rfl, rfl, ods2, by rw [← et, he, Bool.and_true], rfl, by omega, fun e' he' => hws e' (List.mem_append_left _ he')⟩)
      have ret : isTermD e = false → Fin K q (.bl false) (updA m wt (.lst zs)) := fun he => by
        rw [he, Bool.and_false] at et
        rw [← et] at k
        exact Fin.pure w (sW _) k
      have ody2 := ody.mono (sW zs)
      cases ht : isTupD e with
      | false =>
        have te := nontup_term ht
        simp only [aNext, aAsg, aName, aVar, slot, put, aC, aOp, aUn, aTest, aChain, aAnd, aOr, aNot, aAndV, aOrV, aNotV, aIf, aNil, aCons, aTup, aLst, aCB, aBM, aSl, aPart, aNoPart, aDrop, aRet, aIfS, aPar, aAug, aSub, aUnp, aGNil, aGCons, aCall, aYes, aNilEq, aJoin, wRange1, wAny, wStr, wEnum, wEnumD, wKeys, wVals, wItems, lkAt, aLc, aDc, aDc2, aDNew, aRev, aSetd, aGet1, aGet2, isD, dAt, Ab.keyOf, wipeA, List.set_cons_zero, List.set_cons_succ, asStrs_map, bSub, bAdd, bIAdd, bNeg, bIx, bSl, bInt, bSet, bPop, bInsert, bAppend, bExtend, bML, bIsB, one, bLen, bList, bTuple, bSum, bToInt, bDict, bSorted, bMax, bAny, bAll, asBls_map, bMulL, aDispF, aSortSet, aListVals, aCallK, tyA, at0, at1, at2, at3, ixL0, ixL1, ixL2, set0, set1, set2, updA_same, updA_twice, List.append_nil, List.cons_append, List.nil_append, id_eq, isiT_d ody2, ht, if_neg Bool.false_ne_true, Bool.not_false, if_true, spWholeD, spWordD]
        refine ⟨e, ody2, ?_⟩
        cases h1 : isWholeD e with
        | true =>
          rw [h1] at te
          exact nx _ _ te
        | false =>
          rw [h1] at te
          refine ⟨wW _, e, ody2, wey, ?_⟩
          cases h2 : isWordD e with
          | true =>
            rw [h2] at te
            exact nx _ _ te
          | false =>
            rw [h2] at te
            exact ret te
      | true =>
        cases ody with
        | @tup fs us hf =>
          have hfs := hf.length
          have cf : fs.length ≤ 390001 := by
            have := cntsD_len fs
            simp only [cntD] at hb
            omega
          simp only [aNext, aAsg, aName, aVar, slot, put, aC, aOp, aUn, aTest, aChain, aAnd, aOr, aNot, aAndV, aOrV, aNotV, aIf, aNil, aCons, aTup, aLst, aCB, aBM, aSl, aPart, aNoPart, aDrop, aRet, aIfS, aPar, aAug, aSub, aUnp, aGNil, aGCons, aCall, aYes, aNilEq, aJoin, wRange1, wAny, wStr, wEnum, wEnumD, wKeys, wVals, wItems, lkAt, aLc, aDc, aDc2, aDNew, aRev, aSetd, aGet1, aGet2, isD, dAt, Ab.keyOf, wipeA, List.set_cons_zero, List.set_cons_succ, asStrs_map, bSub, bAdd, bIAdd, bNeg, bIx, bSl, bInt, bSet, bPop, bInsert, bAppend, bExtend, bML, bIsB, one, bLen, bList, bTuple, bSum, bToInt, bDict, bSorted, bMax, bAny, bAll, asBls_map, bMulL, aDispF, aSortSet, aListVals, aCallK, tyA, at0, at1, at2, at3, ixL0, ixL1, ixL2, set0, set1, set2, updA_same, updA_twice, List.append_nil, List.cons_append, List.nil_append, id_eq, isiT_d ody2, ht, if_true, eq0_tup]
          cases hf with
          | nil =>
            simp only [List.isEmpty_nil, Bool.not_true, if_neg Bool.false_ne_true]
            exact ⟨sz (by simp), nx _ _ (by simp only [isTermD])⟩
          | @cons a u fs us oa hf =>
            simp only [List.isEmpty_cons, Bool.not_false, if_true]
            refine ⟨sz (by simp), ?_⟩
            refine seq_i ?_
            cases hf with
            | nil =>
              simp only [aNext, aAsg, aName, aVar, slot, put, aC, aOp, aUn, aTest, aChain, aAnd, aOr, aNot, aAndV, aOrV, aNotV, aIf, aNil, aCons, aTup, aLst, aCB, aBM, aSl, aPart, aNoPart, aDrop, aRet, aIfS, aPar, aAug, aSub, aUnp, aGNil, aGCons, aCall, aYes, aNilEq, aJoin, wRange1, wAny, wStr, wEnum, wEnumD, wKeys, wVals, wItems, lkAt, aLc, aDc, aDc2, aDNew, aRev, aSetd, aGet1, aGet2, isD, dAt, Ab.keyOf, wipeA, List.set_cons_zero, List.set_cons_succ, asStrs_map, bSub, bAdd, bIAdd, bNeg, bIx, bSl, bInt, bSet, bPop, bInsert, bAppend, bExtend, bML, bIsB, one, bLen, bList, bTuple, bSum, bToInt, bDict, bSorted, bMax, bAny, bAll, asBls_map, bMulL, aDispF, aSortSet, aListVals, aCallK, tyA, at0, at1, at2, at3, ixL0, ixL1, ixL2, set0, set1, set2, updA_same, updA_twice, List.append_nil, List.cons_append, List.nil_append, id_eq, bq_int, List.length_cons, List.length_nil]
              exact ret (by simp only [isTermD])
            | @cons b v fs us ob hf =>
              cases hf with
              | @cons b3 v3 fs us ob3 hf =>
                have e : ((us.length : Int) + 1 + 1 + 1 = 2) = False := eq_false (by omega)
                simp only [aNext, aAsg, aName, aVar, slot, put, aC, aOp, aUn, aTest, aChain, aAnd, aOr, aNot, aAndV, aOrV, aNotV, aIf, aNil, aCons, aTup, aLst, aCB, aBM, aSl, aPart, aNoPart, aDrop, aRet, aIfS, aPar, aAug, aSub, aUnp, aGNil, aGCons, aCall, aYes, aNilEq, aJoin, wRange1, wAny, wStr, wEnum, wEnumD, wKeys, wVals, wItems, lkAt, aLc, aDc, aDc2, aDNew, aRev, aSetd, aGet1, aGet2, isD, dAt, Ab.keyOf, wipeA, List.set_cons_zero, List.set_cons_succ, asStrs_map, bSub, bAdd, bIAdd, bNeg, bIx, bSl, bInt, bSet, bPop, bInsert, bAppend, bExtend, bML, bIsB, one, bLen, bList, bTuple, bSum, bToInt, bDict, bSorted, bMax, bAny, bAll, asBls_map, bMulL, aDispF, aSortSet, aListVals, aCallK, tyA, at0, at1, at2, at3, ixL0, ixL1, ixL2, set0, set1, set2, updA_same, updA_twice, List.append_nil, List.cons_append, List.nil_append, id_eq, bq_int, List.length_cons, Int.natCast_add, e]
                exact ret (by simp only [isTermD])
              | nil =>
                simp only [aNext, aAsg, aName, aVar, slot, put, aC, aOp, aUn, aTest, aChain, aAnd, aOr, aNot, aAndV, aOrV, aNotV, aIf, aNil, aCons, aTup, aLst, aCB, aBM, aSl, aPart, aNoPart, aDrop, aRet, aIfS, aPar, aAug, aSub, aUnp, aGNil, aGCons, aCall, aYes, aNilEq, aJoin, wRange1, wAny, wStr, wEnum, wEnumD, wKeys, wVals, wItems, lkAt, aLc, aDc, aDc2, aDNew, aRev, aSetd, aGet1, aGet2, isD, dAt, Ab.keyOf, wipeA, List.set_cons_zero, List.set_cons_succ, asStrs_map, bSub, bAdd, bIAdd, bNeg, bIx, bSl, bInt, bSet, bPop, bInsert, bAppend, bExtend, bML, bIsB, one, bLen, bList, bTuple, bSum, bToInt, bDict, bSorted, bMax, bAny, bAll, asBls_map, bMulL, aDispF, aSortSet, aListVals, aCallK, tyA, at0, at1, at2, at3, ixL0, ixL1, ixL2, set0, set1, set2, updA_same, updA_twice, List.append_nil, List.cons_append, List.nil_append, id_eq, bq_int, List.length_cons, List.length_nil]
                refine .keep ?_
                refine seq_i ?_
                simp only [aNext, aAsg, aName, aVar, slot, put, aC, aOp, aUn, aTest, aChain, aAnd, aOr, aNot, aAndV, aOrV, aNotV, aIf, aNil, aCons, aTup, aLst, aCB, aBM, aSl, aPart, aNoPart, aDrop, aRet, aIfS, aPar, aAug, aSub, aUnp, aGNil, aGCons, aCall, aYes, aNilEq, aJoin, wRange1, wAny, wStr, wEnum, wEnumD, wKeys, wVals, wItems, lkAt, aLc, aDc, aDc2, aDNew, aRev, aSetd, aGet1, aGet2, isD, dAt, Ab.keyOf, wipeA, List.set_cons_zero, List.set_cons_succ, asStrs_map, bSub, bAdd, bIAdd, bNeg, bIx, bSl, bInt, bSet, bPop, bInsert, bAppend, bExtend, bML, bIsB, one, bLen, bList, bTuple, bSum, bToInt, bDict, bSorted, bMax, bAny, bAll, asBls_map, bMulL, aDispF, aSortSet, aListVals, aCallK, tyA, at0, at1, at2, at3, ixL0, ixL1, ixL2, set0, set1, set2, updA_same, updA_twice, List.append_nil, List.cons_append, List.nil_append, id_eq]
                refine ⟨rfl, .keep ?_⟩
                simp only [aNext, aAsg, aName, aVar, slot, put, aC, aOp, aUn, aTest, aChain, aAnd, aOr, aNot, aAndV, aOrV, aNotV, aIf, aNil, aCons, aTup, aLst, aCB, aBM, aSl, aPart, aNoPart, aDrop, aRet, aIfS, aPar, aAug, aSub, aUnp, aGNil, aGCons, aCall, aYes, aNilEq, aJoin, wRange1, wAny, wStr, wEnum, wEnumD, wKeys, wVals, wItems, lkAt, aLc, aDc, aDc2, aDNew, aRev, aSetd, aGet1, aGet2, isD, dAt, Ab.keyOf, wipeA, List.set_cons_zero, List.set_cons_succ, asStrs_map, bSub, bAdd, bIAdd, bNeg, bIx, bSl, bInt, bSet, bPop, bInsert, bAppend, bExtend, bML, bIsB, one, bLen, bList, bTuple, bSum, bToInt, bDict, bSorted, bMax, bAny, bAll, asBls_map, bMulL, aDispF, aSortSet, aListVals, aCallK, tyA, at0, at1, at2, at3, ixL0, ixL1, ixL2, set0, set1, set2, updA_same, updA_twice, List.append_nil, List.cons_append, List.nil_append, id_eq, spMarkedD]
                refine ⟨a, oa.mono (sW zs), ?_⟩
                have we : a.weight ≤ 390000 ∧ b.weight ≤ 390000 := by
                  simp only [PyData.weight, PyData.weightAll] at wey
                  omega
                have ce2 : cntD (.tuple [a, b]) = cntD a + cntD b + 1 := by simp only [cntD, cntsD]; omega
                have te : isTermD (.tuple [a, b]) = if isMarkD a then isNatD b else isTermD a && isTermD b := by rw [isTermD]
                cases hm : isMarkD a with
                | false =>
                  rw [hm, if_neg Bool.false_ne_true] at te
                  simp only [Bool.not_false, if_true]
                  refine ⟨⟨_, _, rfl, updA_same⟩, sz (by simp), fun p hp => ?_⟩
                  rw [updA_keep hp updA_same]
                  have lz := cntsD_len es
                  have lz2 := ods2.length
                  refine ⟨(show _ ≤ 16777216 by simp only [List.length_cons, List.length_nil]; omega), hk (cntsD (es ++ [b, a])) _ _ (by rw [cntsD_app, ce2]; simp only [cntsD]; omega) (.drop (wW (zs ++ [v, u])) ?_ ⟨es ++ [b, a], zs ++ [v, u], _, _, _, rfl, rfl, ods2.app (.cons ob (.cons oa .nil)), ?_, rfl, ?_, ?_⟩)⟩
                  · intro b' o eb
                    by_cases hb' : b' = wt
                    · subst hb'
                      rw [updA_same] at eb ⊢
                      exact eb
                    · rw [updA_ne hb'] at eb ⊢
                      exact updA_keep hp (by rw [updA_ne hb']; exact eb)
                  · rw [← et, te, List.all_append]
                    simp only [List.all_cons, List.all_nil, Bool.and_true]
                    rw [Bool.and_comm (isTermD b)]
                  · rw [cntsD_app]
                    simp only [cntsD]
                    omega
                  · intro e' he'
                    rcases List.mem_append.mp he' with he' | he'
                    · exact hws e' (List.mem_append_left _ he')
                    · simp only [List.mem_cons, List.not_mem_nil, or_false] at he'
                      rcases he' with rfl | rfl
                      · exact we.2
                      · exact we.1
                | true =>
                  rw [hm, if_pos rfl] at te
                  simp only [aNext, aAsg, aName, aVar, slot, put, aC, aOp, aUn, aTest, aChain, aAnd, aOr, aNot, aAndV, aOrV, aNotV, aIf, aNil, aCons, aTup, aLst, aCB, aBM, aSl, aPart, aNoPart, aDrop, aRet, aIfS, aPar, aAug, aSub, aUnp, aGNil, aGCons, aCall, aYes, aNilEq, aJoin, wRange1, wAny, wStr, wEnum, wEnumD, wKeys, wVals, wItems, lkAt, aLc, aDc, aDc2, aDNew, aRev, aSetd, aGet1, aGet2, isD, dAt, Ab.keyOf, wipeA, List.set_cons_zero, List.set_cons_succ, asStrs_map, bSub, bAdd, bIAdd, bNeg, bIx, bSl, bInt, bSet, bPop, bInsert, bAppend, bExtend, bML, bIsB, one, bLen, bList, bTuple, bSum, bToInt, bDict, bSorted, bMax, bAny, bAll, asBls_map, bMulL, aDispF, aSortSet, aListVals, aCallK, tyA, at0, at1, at2, at3, ixL0, ixL1, ixL2, set0, set1, set2, updA_same, updA_twice, List.append_nil, List.cons_append, List.nil_append, id_eq, Bool.not_true, if_neg Bool.false_ne_true, spWholeD]
                  refine ⟨b, ob.mono (sW zs), ?_⟩
                  rw [whole_nat] at te
                  cases h1 : isWholeD b with
                  | false =>
                    rw [h1] at te
                    simp only [Bool.not_false, if_true]
                    exact ret te
                  | true =>
                    rw [h1, Bool.true_and] at te
                    simp only [Bool.not_true, if_neg Bool.false_ne_true]
                    cases ob with
                    | int i =>
                      refine ⟨trivial, ?_⟩
                      dsimp only
                      simp only [isNatD] at te
                      by_cases hi : i < 0
                      · rw [decide_eq_true hi, if_pos rfl]
                        exact ret (te.trans (decide_eq_false (by omega)))
                      · rw [decide_eq_false hi, if_neg Bool.false_ne_true]
                        exact nx _ _ (te.trans (decide_eq_true (by omega)))
                    | _ => cases h1
        | _ => cases ht
  · exact h.elim
def spLawTerm (n : Nat) : ASp := fun xs m q => match xs with
  | [x] => Own m ∧ ∃ d, OdAt m d x ∧ d.depth ≤ n ∧ d.weight ≤ 390000 ∧ q (.bl (isTermD d)) m
  | _ => False
theorem r__law_is_term (n : Nat) {sp : ASp} (hsp : ∀ xs m q, n ≠ 0 → spLawTerm (n - 1) xs m q → sp xs m q) : Reads K n__law_is_term (t__law_is_term K sp spWordD spWholeD) (spLawTerm n) := by
  intro H xs m q h g
  unfold spLawTerm at h
  split at h
  · rename_i x
    obtain ⟨w, d, od, hn, hw, k⟩ := h
    refine ⟨_, g, ?_⟩
    rw [show startA n__law_is_term [x] = [some x] from rfl]
    unfold t__law_is_term
    refine seq_i ?_
    simp only [aNext, aAsg, aName, aVar, slot, put, aC, aOp, aUn, aTest, aChain, aAnd, aOr, aNot, aAndV, aOrV, aNotV, aIf, aNil, aCons, aTup, aLst, aCB, aBM, aSl, aPart, aNoPart, aDrop, aRet, aIfS, aPar, aAug, aSub, aUnp, aGNil, aGCons, aCall, aYes, aNilEq, aJoin, wRange1, wAny, wStr, wEnum, wEnumD, wKeys, wVals, wItems, lkAt, aLc, aDc, aDc2, aDNew, aRev, aSetd, aGet1, aGet2, isD, dAt, Ab.keyOf, wipeA, List.set_cons_zero, List.set_cons_succ, asStrs_map, bSub, bAdd, bIAdd, bNeg, bIx, bSl, bInt, bSet, bPop, bInsert, bAppend, bExtend, bML, bIsB, one, bLen, bList, bTuple, bSum, bToInt, bDict, bSorted, bMax, bAny, bAll, asBls_map, bMulL, aDispF, aSortSet, aListVals, aCallK, tyA, at0, at1, at2, at3, ixL0, ixL1, ixL2, set0, set1, set2, updA_same, updA_twice, List.append_nil, List.cons_append, List.nil_append, id_eq, isiT_d od]
    cases ht : isTupD d with
    | false =>
      have te := nontup_term ht
      simp only [Bool.not_false, if_true, aNext, aAsg, aName, aVar, slot, put, aC, aOp, aUn, aTest, aChain, aAnd, aOr, aNot, aAndV, aOrV, aNotV, aIf, aNil, aCons, aTup, aLst, aCB, aBM, aSl, aPart, aNoPart, aDrop, aRet, aIfS, aPar, aAug, aSub, aUnp, aGNil, aGCons, aCall, aYes, aNilEq, aJoin, wRange1, wAny, wStr, wEnum, wEnumD, wKeys, wVals, wItems, lkAt, aLc, aDc, aDc2, aDNew, aRev, aSetd, aGet1, aGet2, isD, dAt, Ab.keyOf, wipeA, List.set_cons_zero, List.set_cons_succ, asStrs_map, bSub, bAdd, bIAdd, bNeg, bIx, bSl, bInt, bSet, bPop, bInsert, bAppend, bExtend, bML, bIsB, one, bLen, bList, bTuple, bSum, bToInt, bDict, bSorted, bMax, bAny, bAll, asBls_map, bMulL, aDispF, aSortSet, aListVals, aCallK, tyA, at0, at1, at2, at3, ixL0, ixL1, ixL2, set0, set1, set2, updA_same, updA_twice, List.append_nil, List.cons_append, List.nil_append, id_eq, spWholeD, spWordD]
      refine ⟨d, od, ?_⟩
      cases h1 : isWholeD d with
      | true =>
        rw [h1] at te
        rw [te] at k
        exact Fin.same k
      | false =>
        rw [h1, Bool.false_or] at te
        rw [te] at k
        exact ⟨w, d, od, hw, Fin.same k⟩
    | true =>
      cases od with
      | @tup fs us hf =>
        simp only [Bool.not_true, if_neg Bool.false_ne_true]
        refine .keep ?_
        refine seq_i ?_
        simp only [aNext, aAsg, aName, aVar, slot, put, aC, aOp, aUn, aTest, aChain, aAnd, aOr, aNot, aAndV, aOrV, aNotV, aIf, aNil, aCons, aTup, aLst, aCB, aBM, aSl, aPart, aNoPart, aDrop, aRet, aIfS, aPar, aAug, aSub, aUnp, aGNil, aGCons, aCall, aYes, aNilEq, aJoin, wRange1, wAny, wStr, wEnum, wEnumD, wKeys, wVals, wItems, lkAt, aLc, aDc, aDc2, aDNew, aRev, aSetd, aGet1, aGet2, isD, dAt, Ab.keyOf, wipeA, List.set_cons_zero, List.set_cons_succ, asStrs_map, bSub, bAdd, bIAdd, bNeg, bIx, bSl, bInt, bSet, bPop, bInsert, bAppend, bExtend, bML, bIsB, one, bLen, bList, bTuple, bSum, bToInt, bDict, bSorted, bMax, bAny, bAll, asBls_map, bMulL, aDispF, aSortSet, aListVals, aCallK, tyA, at0, at1, at2, at3, ixL0, ixL1, ixL2, set0, set1, set2, updA_same, updA_twice, List.append_nil, List.cons_append, List.nil_append, id_eq, eq0_tup]
        refine ⟨sz (by simp), ?_⟩
        cases hf with
        | nil =>
          simp only [List.isEmpty_nil, if_true]
          exact Fin.same (by simpa only [isTermD] using k)
        | @cons a u fs us oa hf =>
          simp only [List.isEmpty_cons, if_neg Bool.false_ne_true]
          refine .keep ?_
          refine seq_i ?_
          cases hf with
          | nil =>
            simp only [aNext, aAsg, aName, aVar, slot, put, aC, aOp, aUn, aTest, aChain, aAnd, aOr, aNot, aAndV, aOrV, aNotV, aIf, aNil, aCons, aTup, aLst, aCB, aBM, aSl, aPart, aNoPart, aDrop, aRet, aIfS, aPar, aAug, aSub, aUnp, aGNil, aGCons, aCall, aYes, aNilEq, aJoin, wRange1, wAny, wStr, wEnum, wEnumD, wKeys, wVals, wItems, lkAt, aLc, aDc, aDc2, aDNew, aRev, aSetd, aGet1, aGet2, isD, dAt, Ab.keyOf, wipeA, List.set_cons_zero, List.set_cons_succ, asStrs_map, bSub, bAdd, bIAdd, bNeg, bIx, bSl, bInt, bSet, bPop, bInsert, bAppend, bExtend, bML, bIsB, one, bLen, bList, bTuple, bSum, bToInt, bDict, bSorted, bMax, bAny, bAll, asBls_map, bMulL, aDispF, aSortSet, aListVals, aCallK, tyA, at0, at1, at2, at3, ixL0, ixL1, ixL2, set0, set1, set2, updA_same, updA_twice, List.append_nil, List.cons_append, List.nil_append, id_eq, bq_int, List.length_cons, List.length_nil]
            exact Fin.same (by simpa only [isTermD] using k)
          | @cons b v fs us ob hf =>
            cases hf with
            | @cons b3 v3 fs us ob3 hf =>
              have e : ((us.length : Int) + 1 + 1 + 1 = 2) = False := eq_false (by omega)
              simp only [aNext, aAsg, aName, aVar, slot, put, aC, aOp, aUn, aTest, aChain, aAnd, aOr, aNot, aAndV, aOrV, aNotV, aIf, aNil, aCons, aTup, aLst, aCB, aBM, aSl, aPart, aNoPart, aDrop, aRet, aIfS, aPar, aAug, aSub, aUnp, aGNil, aGCons, aCall, aYes, aNilEq, aJoin, wRange1, wAny, wStr, wEnum, wEnumD, wKeys, wVals, wItems, lkAt, aLc, aDc, aDc2, aDNew, aRev, aSetd, aGet1, aGet2, isD, dAt, Ab.keyOf, wipeA, List.set_cons_zero, List.set_cons_succ, asStrs_map, bSub, bAdd, bIAdd, bNeg, bIx, bSl, bInt, bSet, bPop, bInsert, bAppend, bExtend, bML, bIsB, one, bLen, bList, bTuple, bSum, bToInt, bDict, bSorted, bMax, bAny, bAll, asBls_map, bMulL, aDispF, aSortSet, aListVals, aCallK, tyA, at0, at1, at2, at3, ixL0, ixL1, ixL2, set0, set1, set2, updA_same, updA_twice, List.append_nil, List.cons_append, List.nil_append, id_eq, bq_int, List.length_cons, Int.natCast_add, e]
              exact Fin.same (by simpa only [isTermD] using k)
            | nil =>
              simp only [aNext, aAsg, aName, aVar, slot, put, aC, aOp, aUn, aTest, aChain, aAnd, aOr, aNot, aAndV, aOrV, aNotV, aIf, aNil, aCons, aTup, aLst, aCB, aBM, aSl, aPart, aNoPart, aDrop, aRet, aIfS, aPar, aAug, aSub, aUnp, aGNil, aGCons, aCall, aYes, aNilEq, aJoin, wRange1, wAny, wStr, wEnum, wEnumD, wKeys, wVals, wItems, lkAt, aLc, aDc, aDc2, aDNew, aRev, aSetd, aGet1, aGet2, isD, dAt, Ab.keyOf, wipeA, List.set_cons_zero, List.set_cons_succ, asStrs_map, bSub, bAdd, bIAdd, bNeg, bIx, bSl, bInt, bSet, bPop, bInsert, bAppend, bExtend, bML, bIsB, one, bLen, bList, bTuple, bSum, bToInt, bDict, bSorted, bMax, bAny, bAll, asBls_map, bMulL, aDispF, aSortSet, aListVals, aCallK, tyA, at0, at1, at2, at3, ixL0, ixL1, ixL2, set0, set1, set2, updA_same, updA_twice, List.append_nil, List.cons_append, List.nil_append, id_eq, bq_int, List.length_cons, List.length_nil]
              refine .keep ?_
              refine seq_i ?_
              simp only [aNext, aAsg, aName, aVar, slot, put, aC, aOp, aUn, aTest, aChain, aAnd, aOr, aNot, aAndV, aOrV, aNotV, aIf, aNil, aCons, aTup, aLst, aCB, aBM, aSl, aPart, aNoPart, aDrop, aRet, aIfS, aPar, aAug, aSub, aUnp, aGNil, aGCons, aCall, aYes, aNilEq, aJoin, wRange1, wAny, wStr, wEnum, wEnumD, wKeys, wVals, wItems, lkAt, aLc, aDc, aDc2, aDNew, aRev, aSetd, aGet1, aGet2, isD, dAt, Ab.keyOf, wipeA, List.set_cons_zero, List.set_cons_succ, asStrs_map, bSub, bAdd, bIAdd, bNeg, bIx, bSl, bInt, bSet, bPop, bInsert, bAppend, bExtend, bML, bIsB, one, bLen, bList, bTuple, bSum, bToInt, bDict, bSorted, bMax, bAny, bAll, asBls_map, bMulL, aDispF, aSortSet, aListVals, aCallK, tyA, at0, at1, at2, at3, ixL0, ixL1, ixL2, set0, set1, set2, updA_same, updA_twice, List.append_nil, List.cons_append, List.nil_append, id_eq, isiS_d oa]
              have te : isTermD (.tuple [a, b]) = if isMarkD a then isNatD b else isTermD a && isTermD b := by rw [isTermD]
              have we : a.weight ≤ 390000 ∧ b.weight ≤ 390000 := by
                simp only [PyData.weight, PyData.weightAll] at hw
                omega
              have de : n ≠ 0 ∧ a.depth ≤ n - 1 ∧ b.depth ≤ n - 1 := by
                simp only [PyData.depth, PyData.depthAll] at hn
                omega
              have rest : isMarkD a = false → aRet (aAndV (aCall sp [] (aCons (aOp bIx (aVar 0) (aC (.int 0))) aNil)) (aCall sp [] (aCons (aOp bIx (aVar 0) (aC (.int 1))) aNil))) ⟨fun _ m' => Fin K q .non m', fun v m' => Fin K q v m', fun _ _ => False, fun _ _ => False⟩ [some (.tup [u, v])] m := by
                intro hm
                rw [hm, if_neg Bool.false_ne_true] at te
                rw [te] at k
                simp only [aNext, aAsg, aName, aVar, slot, put, aC, aOp, aUn, aTest, aChain, aAnd, aOr, aNot, aAndV, aOrV, aNotV, aIf, aNil, aCons, aTup, aLst, aCB, aBM, aSl, aPart, aNoPart, aDrop, aRet, aIfS, aPar, aAug, aSub, aUnp, aGNil, aGCons, aCall, aYes, aNilEq, aJoin, wRange1, wAny, wStr, wEnum, wEnumD, wKeys, wVals, wItems, lkAt, aLc, aDc, aDc2, aDNew, aRev, aSetd, aGet1, aGet2, isD, dAt, Ab.keyOf, wipeA, List.set_cons_zero, List.set_cons_succ, asStrs_map, bSub, bAdd, bIAdd, bNeg, bIx, bSl, bInt, bSet, bPop, bInsert, bAppend, bExtend, bML, bIsB, one, bLen, bList, bTuple, bSum, bToInt, bDict, bSorted, bMax, bAny, bAll, asBls_map, bMulL, aDispF, aSortSet, aListVals, aCallK, tyA, at0, at1, at2, at3, ixL0, ixL1, ixL2, set0, set1, set2, updA_same, updA_twice, List.append_nil, List.cons_append, List.nil_append, id_eq]
                refine hsp _ _ _ de.1 ⟨w, a, oa, de.2.1, we.1, ?_⟩
                cases h1 : isTermD a with
                | false =>
                  rw [h1] at k
                  exact Fin.same k
                | true =>
                  rw [h1] at k
                  exact hsp _ _ _ de.1 ⟨w, b, ob, de.2.2, we.2, Fin.same k⟩
              cases hs : isStrD a with
              | false =>
                have hm : isMarkD a = false := by cases a <;> first | rfl | cases hs
                exact .keep (rest hm)
              | true =>
                cases oa with
                | str z =>
                  simp only [bq_str, id_eq]
                  by_cases hz : z = "?"
                  · have hm : isMarkD (.str z) = true := decide_eq_true hz
                    rw [hm, if_pos rfl, whole_nat] at te
                    rw [te] at k
                    rw [decide_eq_true hz, if_pos rfl]
                    simp only [aNext, aAsg, aName, aVar, slot, put, aC, aOp, aUn, aTest, aChain, aAnd, aOr, aNot, aAndV, aOrV, aNotV, aIf, aNil, aCons, aTup, aLst, aCB, aBM, aSl, aPart, aNoPart, aDrop, aRet, aIfS, aPar, aAug, aSub, aUnp, aGNil, aGCons, aCall, aYes, aNilEq, aJoin, wRange1, wAny, wStr, wEnum, wEnumD, wKeys, wVals, wItems, lkAt, aLc, aDc, aDc2, aDNew, aRev, aSetd, aGet1, aGet2, isD, dAt, Ab.keyOf, wipeA, List.set_cons_zero, List.set_cons_succ, asStrs_map, bSub, bAdd, bIAdd, bNeg, bIx, bSl, bInt, bSet, bPop, bInsert, bAppend, bExtend, bML, bIsB, one, bLen, bList, bTuple, bSum, bToInt, bDict, bSorted, bMax, bAny, bAll, asBls_map, bMulL, aDispF, aSortSet, aListVals, aCallK, tyA, at0, at1, at2, at3, ixL0, ixL1, ixL2, set0, set1, set2, updA_same, updA_twice, List.append_nil, List.cons_append, List.nil_append, id_eq, spWholeD]
                    refine ⟨b, ob, ?_⟩
                    cases h1 : isWholeD b with
                    | false =>
                      rw [h1] at k
                      exact Fin.same k
                    | true =>
                      rw [h1, Bool.true_and] at k
                      cases ob with
                      | int i =>
                        exact ⟨trivial, Fin.same k⟩
                      | _ => cases h1
                  · rw [decide_eq_false hz, if_neg Bool.false_ne_true]
                    exact .keep (rest (decide_eq_false hz))
                | _ => cases hs
      | _ => cases ht
  · exact h.elim
end K01

namespace K01
open PySem PySem.Spec PyProof.Rows L2 Ab
variable {K : PySem.W.Frag}
def OddQ (m : AHp) (d : PyData) (q : AK) : Prop := ∀ y e m', Ab.Sub m m' → Own m' → OdAt m' e y → Ab.fineD e = true → e.weight ≤ d.weight + 300 → e.depth ≤ d.depth + 2 → q y m'
def spOdd : ASp := fun xs m q => match xs with
  | [.ref dk, x] => Own m ∧ (∃ c, m dk = some (.deck c)) ∧ ∃ d, OdAt m d x ∧ Ab.fineD d = true ∧ OddQ m d q
  | _ => False
def okD (d : PyData) (e : PyData) : Prop := Ab.fineD e = true ∧ e.weight ≤ d.weight + 300 ∧ e.depth ≤ d.depth + 2
def smallD (e : PyData) : Bool := Ab.fineD e && decide (e.weight ≤ 300) && decide (e.depth ≤ 2)
theorem small_ok {d e : PyData} (h : smallD e = true) : okD d e := by
  unfold smallD at h
  simp only [Bool.and_eq_true, decide_eq_true_eq] at h
  exact ⟨h.1.1, by omega, by omega⟩
def someD : List PyData := [.none, .bool true, .bool false, .int 0, .int (-1), .int 1000000000000000000000000000000000000000, .str "", .str "A", .str "abcdefghi", .str "a b", .str "?", .str "a\n", .tuple [], .tuple [.int 1], .tuple [.int 1, .int 2, .int 3], .list [], .dict [],
  .tuple [.str "?"], .tuple [.str "?", .int (-1)], .tuple [.str "?", .bool true], .tuple [.str "?", .str "a"], .tuple [.str "?", .int 1, .int 2], .tuple [.str "?", .tuple []], .tuple [.str "?", .none], .tuple [.none, .int 1]]
def moreD : List PyData := [.tuple [.str "?", .int 999], .tuple [.str "??", .int 1], .tuple [.int 1, .list [.int 2]]]
theorem someD_ok : someD.all smallD = true := by decide +kernel
theorem moreD_ok : moreD.all smallD = true := by decide +kernel
theorem mark_w : (PyData.str "?").weight = 1 := by decide +kernel
theorem mark_f : Ab.fineD (.str "?") = true := by decide +kernel
def roundD (d : PyData) : List PyData := [.list [d], .tuple [d], .dict [(.int 0, d)], .tuple [.str "?", d], .tuple [d, .str "?"]]
theorem roundD_ok {d : PyData} (h : Ab.fineD d = true) : ∀ e ∈ roundD d, okD d e := by
  intro e he
  have z0 : Ab.fineD (.int 0) = true := by decide +kernel
  have z1 : (PyData.int 0).weight = 0 := by decide +kernel
  have z2 : (PyData.int 0).depth = 0 := by simp only [PyData.depth]
  have z3 : (PyData.str "?").depth = 0 := by simp only [PyData.depth]
  simp only [roundD, List.mem_cons, List.not_mem_nil, or_false] at he
  rcases he with rfl | rfl | rfl | rfl | rfl <;> refine ⟨?_, ?_, ?_⟩
  all_goals first
    | simp only [Ab.fineD, finesD, fineKD, h, Bool.and_true, Bool.true_and, z0] <;> first | rfl | exact mark_f
    | (have := mark_w; simp only [PyData.weight, PyData.weightAll, PyData.weightKv] at *; omega)
    | (simp only [PyData.depth, PyData.depthAll, PyData.depthKv] at *; omega)
theorem allD_ok {d : PyData} (h : Ab.fineD d = true) : ∀ e ∈ someD ++ (roundD d ++ moreD), okD d e := by
  intro e he
  rcases List.mem_append.mp he with he | he
  · exact small_ok (List.all_eq_true.mp someD_ok e he)
  · rcases List.mem_append.mp he with he | he
    · exact roundD_ok h e he
    · exact small_ok (List.all_eq_true.mp moreD_ok e he)
theorem r__law_odd : Reads K n__law_odd (t__law_odd K spDraw) spOdd := by
  intro H xs m q h g
  unfold spOdd at h
  split at h
  · rename_i dk x
    obtain ⟨w, ⟨c, hd⟩, d, od, hf, k⟩ := h
    refine ⟨_, g, ?_⟩
    rw [show startA n__law_odd [.ref dk, x] = [some (.ref dk), some x, none] from rfl]
    unfold t__law_odd
    have p39 : CPow 10 39 := ⟨by decide, by decide, by decide⟩
    have e39 : (10 : Int) ^ (39 : Int).toNat = 1000000000000000000000000000000000000000 := by decide
    refine seq_i ?_
    simp only [aNext, aAsg, aName, aVar, slot, put, aC, aOp, aUn, aTest, aChain, aAnd, aOr, aNot, aAndV, aOrV, aNotV, aIf, aNil, aCons, aTup, aLst, aCB, aBM, aSl, aPart, aNoPart, aDrop, aRet, aIfS, aPar, aAug, aSub, aUnp, aGNil, aGCons, aCall, aYes, aNilEq, aJoin, wRange1, wAny, wStr, wEnum, wEnumD, wKeys, wVals, wItems, lkAt, aLc, aDc, aDc2, aDNew, aRev, aSetd, aGet1, aGet2, isD, dAt, Ab.keyOf, wipeA, List.set_cons_zero, List.set_cons_succ, asStrs_map, bSub, bAdd, bIAdd, bNeg, bIx, bSl, bInt, bSet, bPop, bInsert, bAppend, bExtend, bML, bIsB, one, bLen, bList, bTuple, bSum, bToInt, bDict, bSorted, bMax, bAny, bAll, asBls_map, bMulL, aDispF, aSortSet, aListVals, aCallK, tyA, at0, at1, at2, at3, ixL0, ixL1, ixL2, set0, set1, set2, updA_same, updA_twice, List.append_nil, List.cons_append, List.nil_append, id_eq, e39]
    refine ⟨p39, sz (by simp), sz (by simp), sz (by simp), sz (by simp), fun p hp p1 hp1 => ⟨sz (by simp), fun p2 hp2 => .keep ?_⟩⟩
    generalize eL : [AV.non, .bl true, .bl false, .int 0, .int (-1), .int 1000000000000000000000000000000000000000, .str "", .str "A", .str "abcdefghi", .str "a b", .str "?", .str "a\n", .tup [], .tup [.int 1], .tup [.int 1, .int 2, .int 3], .ref p, .ref p1] = L1 at hp2 ⊢
    have w1 := ((w.free hp (nol [])).free hp1 (o := .dK []) (fun _ e => by cases e)).free hp2 (nol L1)
    have s1 := ((Sub.refl.new hp (o := .lst [])).alloc hp1 (o := .dK [])).alloc hp2 (o := .lst L1)
    have a1 := updA_keep (o := .lst L1) hp2 (updA_keep (o := .dK []) hp1 (updA_same (m := m) (a := p) (o := .lst [])))
    have b1 := updA_keep (o := .lst L1) hp2 (updA_same (m := updA m p (.lst [])) (a := p1) (o := .dK []))
    have c1 := updA_same (m := updA (updA m p (.lst [])) p1 (.dK [])) (a := p2) (o := .lst L1)
    clear hp hp1 hp2
    generalize updA (updA (updA m p (.lst [])) p1 (.dK [])) p2 (.lst L1) = m1 at w1 s1 a1 b1 c1 ⊢
    have o1 : OdsAt m1 (someD.take 17) L1 := by
      have oa : OdAt m1 (.list []) (.ref p) := .lst a1 .nil
      have ob : OdAt m1 (.dict []) (.ref p1) := .dic b1 .nil
      rw [← eL]
      unfold someD
      simp only [List.take_succ_cons, List.take_zero]
      repeat' first | assumption | exact OdsAt.nil | refine OdsAt.cons ?_ ?_ | exact OdAt.non | exact OdAt.bl _ | exact OdAt.int _ | exact OdAt.str _ | refine OdAt.tup ?_
    have l1 := o1.length
    have l17 : (someD.take 17).length = 17 := rfl
    clear eL a1 b1
    refine seq_i ?_
    simp only [aNext, aAsg, aName, aVar, slot, put, aC, aOp, aUn, aTest, aChain, aAnd, aOr, aNot, aAndV, aOrV, aNotV, aIf, aNil, aCons, aTup, aLst, aCB, aBM, aSl, aPart, aNoPart, aDrop, aRet, aIfS, aPar, aAug, aSub, aUnp, aGNil, aGCons, aCall, aYes, aNilEq, aJoin, wRange1, wAny, wStr, wEnum, wEnumD, wKeys, wVals, wItems, lkAt, aLc, aDc, aDc2, aDNew, aRev, aSetd, aGet1, aGet2, isD, dAt, Ab.keyOf, wipeA, List.set_cons_zero, List.set_cons_succ, asStrs_map, bSub, bAdd, bIAdd, bNeg, bIx, bSl, bInt, bSet, bPop, bInsert, bAppend, bExtend, bML, bIsB, one, bLen, bList, bTuple, bSum, bToInt, bDict, bSorted, bMax, bAny, bAll, asBls_map, bMulL, aDispF, aSortSet, aListVals, aCallK, tyA, at0, at1, at2, at3, ixL0, ixL1, ixL2, set0, set1, set2, updA_same, updA_twice, List.append_nil, List.cons_append, List.nil_append, id_eq]
    generalize eL : [AV.tup [.str "?"], .tup [.str "?", .int (-1)], .tup [.str "?", .bl true], .tup [.str "?", .str "a"], .tup [.str "?", .int 1, .int 2], .tup [.str "?", .tup []], .tup [.str "?", .non], .tup [.non, .int 1]] = L8
    refine ⟨sz (by simp), sz (by simp), sz (by simp), sz (by simp), sz (by simp), sz (by simp), sz (by simp), sz (by simp), sz (by simp), sz (by rw [← eL]; simp), fun r1 hr1 => ?_⟩
    rw [updA_keep hr1 c1]
    have o2 : OdsAt m1 (someD.drop 17) L8 := by
      rw [← eL]
      unfold someD
      simp only [List.drop_succ_cons, List.drop_zero]
      repeat' first | assumption | exact OdsAt.nil | refine OdsAt.cons ?_ ?_ | exact OdAt.non | exact OdAt.bl _ | exact OdAt.int _ | exact OdAt.str _ | refine OdAt.tup ?_
    have l2 := o2.length
    have l8 : (someD.drop 17).length = 8 := rfl
    have o3 := o1.app o2
    rw [List.take_append_drop] at o3
    refine ⟨sz (by omega), fun r2 hr2 => .keep ?_⟩
    have w2 := (w1.free hr1 (nol L8)).free hr2 (nol (L1 ++ L8))
    have s2 := (Sub.refl.new hr1 (o := .lst L8)).alloc hr2 (o := .lst (L1 ++ L8))
    have c2 := updA_same (m := updA m1 r1 (.lst L8)) (a := r2) (o := .lst (L1 ++ L8))
    generalize updA (updA m1 r1 (.lst L8)) r2 (.lst (L1 ++ L8)) = m2 at w2 s2 c2 ⊢
    have o4 := o3.mono s2
    have s3 := s1.trans s2
    have odx := od.mono s3
    have l3 : (L1 ++ L8).length = 25 := by rw [List.length_append]; omega
    generalize L1 ++ L8 = L25 at o4 c2 l3 ⊢
    clear o1 o2 o3 eL hr1 hr2 c1 s1 s2 w1
    refine seq_i ?_
    simp only [aNext, aAsg, aName, aVar, slot, put, aC, aOp, aUn, aTest, aChain, aAnd, aOr, aNot, aAndV, aOrV, aNotV, aIf, aNil, aCons, aTup, aLst, aCB, aBM, aSl, aPart, aNoPart, aDrop, aRet, aIfS, aPar, aAug, aSub, aUnp, aGNil, aGCons, aCall, aYes, aNilEq, aJoin, wRange1, wAny, wStr, wEnum, wEnumD, wKeys, wVals, wItems, lkAt, aLc, aDc, aDc2, aDNew, aRev, aSetd, aGet1, aGet2, isD, dAt, Ab.keyOf, wipeA, List.set_cons_zero, List.set_cons_succ, asStrs_map, bSub, bAdd, bIAdd, bNeg, bIx, bSl, bInt, bSet, bPop, bInsert, bAppend, bExtend, bML, bIsB, one, bLen, bList, bTuple, bSum, bToInt, bDict, bSorted, bMax, bAny, bAll, asBls_map, bMulL, aDispF, aSortSet, aListVals, aCallK, tyA, at0, at1, at2, at3, ixL0, ixL1, ixL2, set0, set1, set2, updA_same, updA_twice, List.append_nil, List.cons_append, List.nil_append, id_eq]
    refine ⟨sz (by simp), fun p hp => ⟨sz (by simp), fun p1 hp1 => ⟨trivial, sz (by simp), sz (by simp), sz (by simp), sz (by simp), sz (by simp), fun p2 hp2 => ⟨sz (by simp), ?_⟩⟩⟩⟩
    generalize eL : [AV.ref p, .tup [x], .ref p1, .tup [.str "?", x], .tup [x, .str "?"], .tup [.str "?", .int 999], .tup [.str "??", .int 1], .tup [.int 1, .ref p2]] = L8
    refine ⟨sz (by rw [← eL]; simp), fun p3 hp3 => ?_⟩
    have z0 := hp3
    have a3 := updA_keep (o := .lst [.int 2]) hp2 (updA_keep (o := .dK [(Sum.inl 0, x)]) hp1 (updA_same (m := m2) (a := p) (o := .lst [x])))
    have b3 := updA_keep (o := .lst [.int 2]) hp2 (updA_same (m := updA m2 p (.lst [x])) (a := p1) (o := .dK [(Sum.inl 0, x)]))
    have d3 := updA_same (m := updA (updA m2 p (.lst [x])) p1 (.dK [(Sum.inl 0, x)])) (a := p2) (o := .lst [.int 2])
    have c3 := updA_keep (o := .lst L8) hp3 (updA_keep (o := .lst [.int 2]) hp2 (updA_keep (o := .dK [(Sum.inl 0, x)]) hp1 (updA_keep (o := .lst [x]) hp c2)))
    have w3 := (((w2.free hp (nol [x])).free hp1 (o := .dK [(Sum.inl 0, x)]) (fun _ e => by cases e)).free hp2 (nol [.int 2])).free hp3 (nol L8)
    have s4 := (((Sub.refl.new hp (o := .lst [x])).alloc hp1 (o := .dK [(Sum.inl 0, x)])).alloc hp2 (o := .lst [.int 2])).alloc hp3 (o := .lst L8)
    have a4 := updA_keep (o := .lst L8) hp3 a3
    have b4 := updA_keep (o := .lst L8) hp3 b3
    have d4 := updA_keep (o := .lst L8) hp3 d3
    rw [c3]
    generalize updA (updA (updA (updA m2 p (.lst [x])) p1 (.dK [(Sum.inl 0, x)])) p2 (.lst [.int 2])) p3 (.lst L8) = m3 at w3 s4 a4 b4 c3 d4 ⊢
    have odx := odx.mono s4
    have o5 := o4.mono s4
    have o6 : OdsAt m3 (roundD d ++ moreD) L8 := by
      have oa : OdAt m3 (.list [d]) (.ref p) := .lst a4 (.cons odx .nil)
      have ob : OdAt m3 (.dict [(.int 0, d)]) (.ref p1) := .dic b4 (.cons (k := .inl 0) odx .nil)
      have oc : OdAt m3 (.list [.int 2]) (.ref p2) := .lst d4 (.cons (.int 2) .nil)
      rw [← eL]
      unfold roundD moreD
      simp only [List.cons_append, List.nil_append]
      repeat' first | assumption | exact OdsAt.nil | refine OdsAt.cons ?_ ?_ | exact OdAt.non | exact OdAt.bl _ | exact OdAt.int _ | exact OdAt.str _ | refine OdAt.tup ?_
    have l6 := o6.length
    have l7 : (roundD d ++ moreD).length = 8 := rfl
    have o7 := o5.app o6
    refine ⟨sz (by omega), fun p4 hp4 => .keep ?_⟩
    have l9 : ((L25 ++ L8).length : Int) = 33 := by rw [List.length_append]; omega
    have w4 := w3.free hp4 (nol (L25 ++ L8))
    have s5 := Sub.refl.new hp4 (o := .lst (L25 ++ L8))
    have s6 := s3.trans (s4.trans s5)
    simp only [aNext, aAsg, aName, aVar, slot, put, aC, aOp, aUn, aTest, aChain, aAnd, aOr, aNot, aAndV, aOrV, aNotV, aIf, aNil, aCons, aTup, aLst, aCB, aBM, aSl, aPart, aNoPart, aDrop, aRet, aIfS, aPar, aAug, aSub, aUnp, aGNil, aGCons, aCall, aYes, aNilEq, aJoin, wRange1, wAny, wStr, wEnum, wEnumD, wKeys, wVals, wItems, lkAt, aLc, aDc, aDc2, aDNew, aRev, aSetd, aGet1, aGet2, isD, dAt, Ab.keyOf, wipeA, List.set_cons_zero, List.set_cons_succ, asStrs_map, bSub, bAdd, bIAdd, bNeg, bIx, bSl, bInt, bSet, bPop, bInsert, bAppend, bExtend, bML, bIsB, one, bLen, bList, bTuple, bSum, bToInt, bDict, bSorted, bMax, bAny, bAll, asBls_map, bMulL, aDispF, aSortSet, aListVals, aCallK, tyA, at0, at1, at2, at3, ixL0, ixL1, ixL2, set0, set1, set2, updA_same, updA_twice, List.append_nil, List.cons_append, List.nil_append, id_eq, l9, spDraw]
    refine ⟨⟨c, s6 _ _ hd⟩, by decide, by decide, fun r r0 r1 => ?_⟩
    obtain ⟨y, ey, hy⟩ := at_lt (xs := L25 ++ L8) r0 (by omega)
    rw [ey]
    obtain ⟨e, he, oe⟩ := (o7.mono s5).mem hy
    obtain ⟨k1, k2, k3⟩ := allD_ok hf e he
    exact Fin.same (k y e _ s6 w4 oe k1 k2 k3)
  · exact h.elim
end K01

namespace K01
open PySem PySem.Spec PyProof.Rows L2 Ab
variable {K : PySem.W.Frag}
def spBent (n : Nat) : ASp := fun xs m q => match xs with
  | [.ref dk, x] => Own m ∧ (∃ c, m dk = some (.deck c)) ∧ ∃ d, OdAt m d x ∧ Ab.fineD d = true ∧ d.weight ≤ 380000 ∧ d.depth ≤ n ∧ OddQ m d q
  | _ => False
theorem text_digits {i : Int} (h : i.natAbs < 10 ^ 40) : Ab.fineD (.str (Str.ofString (toString i))) = true ∧ (PyData.str (Str.ofString (toString i))).weight ≤ 41 := by
  have e := dec_tx i
  have hl := dec_len h
  rw [e]
  constructor
  · simp only [Ab.fineD, List.all_eq_true, tx_cps]
    intro c hc
    refine decide_eq_true ?_
    by_cases h0 : i < 0
    · obtain ⟨e1, e2⟩ := dec_sign h0
      rw [e1, e2] at hc
      rcases List.mem_cons.mp hc with rfl | hc
      · decide
      · have := dec_digits _ c hc
        omega
    · have e : i = (i.toNat : Int) := by omega
      rw [e] at hc
      have := dec_digits _ c hc
      omega
  · rw [str_size, tx_len]
    exact hl
theorem r__law_bent (n : Nat) {sp : ASp} (hsp : ∀ xs m q, n ≠ 0 → spBent (n - 1) xs m q → sp xs m q) : Reads K n__law_bent (t__law_bent K sp spDraw spOdd) (spBent n) := by
  intro H xs m q h g
  unfold spBent at h
  split at h
  · rename_i dk x
    obtain ⟨w, ⟨c, hd⟩, d, od, hf, hw, hn, k⟩ := h
    refine ⟨_, g, ?_⟩
    rw [show startA n__law_bent [.ref dk, x] = [some (.ref dk), some x, none, none] from rfl]
    unfold t__law_bent
    have odd : spOdd [.ref dk, x] m fun v m' => Fin K q v m' := ⟨w, ⟨c, hd⟩, d, od, hf, fun y e m' z1 z2 z3 z4 z5 z6 => Fin.same (k y e m' z1 z2 z3 z4 z5 z6)⟩
    have give : ∀ y e m', Ab.Sub m m' → Own m' → OdAt m' e y → Ab.fineD e = true → e.weight ≤ d.weight + 300 → e.depth ≤ d.depth + 2 → Fin K q y m' := fun y e m' z1 z2 z3 z4 z5 z6 => Fin.same (k y e m' z1 z2 z3 z4 z5 z6)
    have eT : ∀ q, bIsi [x, .ty "tuple"] m q = q (.bl (isTupD d)) m := fun q => isiT_d od
    have eS : ∀ q, bIsi [x, .ty "str"] m q = q (.bl (isStrD d)) m := fun q => isiS_d od
    have eI : ∀ q, bIsi [x, .ty "int"] m q = q (.bl (isIntD d)) m := fun q => isiI_d od
    refine seq_join (fun a' m' => a' = [some (.ref dk), some x, none, none] ∧ m' = m) ?_ ?_
    · rintro _ m2 ⟨rfl, e2⟩
      subst m2
      refine seq_i ?_
      simp only [aNext, aAsg, aName, aVar, slot, put, aC, aOp, aUn, aTest, aChain, aAnd, aOr, aNot, aAndV, aOrV, aNotV, aIf, aNil, aCons, aTup, aLst, aCB, aBM, aSl, aPart, aNoPart, aDrop, aRet, aIfS, aPar, aAug, aSub, aUnp, aGNil, aGCons, aCall, aYes, aNilEq, aJoin, wRange1, wAny, wStr, wEnum, wEnumD, wKeys, wVals, wItems, lkAt, aLc, aDc, aDc2, aDNew, aRev, aSetd, aGet1, aGet2, isD, dAt, Ab.keyOf, wipeA, List.set_cons_zero, List.set_cons_succ, asStrs_map, bSub, bAdd, bIAdd, bNeg, bIx, bSl, bInt, bSet, bPop, bInsert, bAppend, bExtend, bML, bIsB, one, bLen, bList, bTuple, bSum, bToInt, bDict, bSorted, bMax, bAny, bAll, asBls_map, bMulL, aDispF, aSortSet, aListVals, aCallK, tyA, at0, at1, at2, at3, ixL0, ixL1, ixL2, set0, set1, set2, updA_same, updA_twice, List.append_nil, List.cons_append, List.nil_append, id_eq, spDraw]
      refine ⟨⟨c, hd⟩, by decide, by decide, fun r r0 r1 => .keep ?_⟩
      cases od with
      | @tup fs us hf2 =>
        have f1 : finesD fs = true := by simpa only [Ab.fineD] using hf
        have f2 := finesD_iff.mp f1
        have wt1 : (PyData.tuple fs).weight = PyData.weightAll fs := by simp only [PyData.weight]
        have dt1 : (PyData.tuple fs).depth = PyData.depthAll fs + 1 := by simp only [PyData.depth]
        have f3 := depthAll_iff.mp (Nat.le_refl (PyData.depthAll fs))
        have hl := hf2.length
        have hl2 := cntsD_len fs
        have hl3 := cntsD_le fs
        refine seq_i ?_
        simp only [aNext, aAsg, aName, aVar, slot, put, aC, aOp, aUn, aTest, aChain, aAnd, aOr, aNot, aAndV, aOrV, aNotV, aIf, aNil, aCons, aTup, aLst, aCB, aBM, aSl, aPart, aNoPart, aDrop, aRet, aIfS, aPar, aAug, aSub, aUnp, aGNil, aGCons, aCall, aYes, aNilEq, aJoin, wRange1, wAny, wStr, wEnum, wEnumD, wKeys, wVals, wItems, lkAt, aLc, aDc, aDc2, aDNew, aRev, aSetd, aGet1, aGet2, isD, dAt, Ab.keyOf, wipeA, List.set_cons_zero, List.set_cons_succ, asStrs_map, bSub, bAdd, bIAdd, bNeg, bIx, bSl, bInt, bSet, bPop, bInsert, bAppend, bExtend, bML, bIsB, one, bLen, bList, bTuple, bSum, bToInt, bDict, bSorted, bMax, bAny, bAll, asBls_map, bMulL, aDispF, aSortSet, aListVals, aCallK, tyA, at0, at1, at2, at3, ixL0, ixL1, ixL2, set0, set1, set2, updA_same, updA_twice, List.append_nil, List.cons_append, List.nil_append, id_eq, eT, isTupD, if_true]
        refine ⟨trivial, ?_⟩
        by_cases h4 : r < 4
        · rw [decide_eq_true h4, if_pos rfl]
          have ct : cutA us none (some 1) = us.take 1 := by rw [cutA_G, cutG_to (by decide)]; rfl
          refine fun p hp => ⟨sz (by simp), (show _ ≤ 16777216 by simp only [List.length_cons, List.length_nil]; omega), sz (by simp), fun p2 hp2 => ?_⟩
          rw [ct]
          have w2 := (w.free hp (nol us)).free hp2 (nol [.ref p, .tup (us ++ [.int 0]), .tup (us.take 1), .tup us.reverse])
          have s2 := (Sub.refl.new hp (o := .lst us)).alloc hp2 (o := .lst [.ref p, .tup (us ++ [.int 0]), .tup (us.take 1), .tup us.reverse])
          have a2 := updA_keep (o := .lst [.ref p, .tup (us ++ [.int 0]), .tup (us.take 1), .tup us.reverse]) hp2 (updA_same (m := m) (a := p) (o := .lst us))
          have hf3 := hf2.mono s2
          have : r = 0 ∨ r = 1 ∨ r = 2 ∨ r = 3 := by omega
          rcases this with rfl | rfl | rfl | rfl
          · simp only [at0]
            refine give _ (.list fs) _ s2 w2 (.lst a2 hf3) (by simpa only [Ab.fineD] using f1) ?_ ?_
            · simp only [PyData.weight]; omega
            · simp only [PyData.depth]; omega
          · simp only [at1]
            refine give _ (.tuple (fs ++ [.int 0])) _ s2 w2 (.tup (hf3.app (.cons (.int 0) .nil))) ?_ ?_ ?_
            · simp only [Ab.fineD]
              refine finesD_iff.mpr fun e he => ?_
              rcases List.mem_append.mp he with he | he
              · exact f2 e he
              · rw [List.mem_singleton.mp he]
                simp only [Ab.fineD]
                decide +kernel
            · have : (PyData.int 0).weight = 0 := by decide +kernel
              simp only [PyData.weight, weightAll_app, PyData.weightAll] at this ⊢
              omega
            · simp only [PyData.depth]
              have : PyData.depthAll (fs ++ [.int 0]) ≤ PyData.depthAll fs := depthAll_iff.mpr fun e he => by
                rcases List.mem_append.mp he with he | he
                · exact f3 e he
                · rw [List.mem_singleton.mp he]
                  simp only [PyData.depth]
                  omega
              omega
          · simp only [at2]
            refine give _ (.tuple (fs.take 1)) _ s2 w2 (.tup (hf3.take 1)) ?_ ?_ ?_
            · simp only [Ab.fineD]
              exact finesD_iff.mpr fun e he => f2 e (List.mem_of_mem_take he)
            · have := weightAll_take fs 1
              simp only [PyData.weight]
              omega
            · simp only [PyData.depth]
              have : PyData.depthAll (fs.take 1) ≤ PyData.depthAll fs := depthAll_iff.mpr fun e he => f3 e (List.mem_of_mem_take he)
              omega
          · simp only [at3]
            refine give _ (.tuple fs.reverse) _ s2 w2 (.tup hf3.reverse) ?_ ?_ ?_
            · simp only [Ab.fineD]
              exact finesD_iff.mpr fun e he => f2 e (List.mem_reverse.mp he)
            · have := weightAll_rev fs
              simp only [PyData.weight]
              omega
            · simp only [PyData.depth]
              have : PyData.depthAll fs.reverse ≤ PyData.depthAll fs := depthAll_iff.mpr fun e he => f3 e (List.mem_reverse.mp he)
              omega
        · rw [decide_eq_false h4, if_neg Bool.false_ne_true]
          refine .keep (seq_i ?_)
          simp only [aNext, aAsg, aName, aVar, slot, put, aC, aOp, aUn, aTest, aChain, aAnd, aOr, aNot, aAndV, aOrV, aNotV, aIf, aNil, aCons, aTup, aLst, aCB, aBM, aSl, aPart, aNoPart, aDrop, aRet, aIfS, aPar, aAug, aSub, aUnp, aGNil, aGCons, aCall, aYes, aNilEq, aJoin, wRange1, wAny, wStr, wEnum, wEnumD, wKeys, wVals, wItems, lkAt, aLc, aDc, aDc2, aDNew, aRev, aSetd, aGet1, aGet2, isD, dAt, Ab.keyOf, wipeA, List.set_cons_zero, List.set_cons_succ, asStrs_map, bSub, bAdd, bIAdd, bNeg, bIx, bSl, bInt, bSet, bPop, bInsert, bAppend, bExtend, bML, bIsB, one, bLen, bList, bTuple, bSum, bToInt, bDict, bSorted, bMax, bAny, bAll, asBls_map, bMulL, aDispF, aSortSet, aListVals, aCallK, tyA, at0, at1, at2, at3, ixL0, ixL1, ixL2, set0, set1, set2, updA_same, updA_twice, List.append_nil, List.cons_append, List.nil_append, id_eq, eS, isStrD, if_neg Bool.false_ne_true]
          refine .keep (seq_i ?_)
          simp only [aNext, aAsg, aName, aVar, slot, put, aC, aOp, aUn, aTest, aChain, aAnd, aOr, aNot, aAndV, aOrV, aNotV, aIf, aNil, aCons, aTup, aLst, aCB, aBM, aSl, aPart, aNoPart, aDrop, aRet, aIfS, aPar, aAug, aSub, aUnp, aGNil, aGCons, aCall, aYes, aNilEq, aJoin, wRange1, wAny, wStr, wEnum, wEnumD, wKeys, wVals, wItems, lkAt, aLc, aDc, aDc2, aDNew, aRev, aSetd, aGet1, aGet2, isD, dAt, Ab.keyOf, wipeA, List.set_cons_zero, List.set_cons_succ, asStrs_map, bSub, bAdd, bIAdd, bNeg, bIx, bSl, bInt, bSet, bPop, bInsert, bAppend, bExtend, bML, bIsB, one, bLen, bList, bTuple, bSum, bToInt, bDict, bSorted, bMax, bAny, bAll, asBls_map, bMulL, aDispF, aSortSet, aListVals, aCallK, tyA, at0, at1, at2, at3, ixL0, ixL1, ixL2, set0, set1, set2, updA_same, updA_twice, List.append_nil, List.cons_append, List.nil_append, id_eq, eI, isIntD, if_neg Bool.false_ne_true]
          exact .keep odd
      | str z =>
        have f1 : ∀ c ∈ z.cps.toList, c < 128 := by simpa only [Ab.fineD, List.all_eq_true, decide_eq_true_eq] using hf
        rw [str_size] at hw
        refine seq_i ?_
        simp only [aNext, aAsg, aName, aVar, slot, put, aC, aOp, aUn, aTest, aChain, aAnd, aOr, aNot, aAndV, aOrV, aNotV, aIf, aNil, aCons, aTup, aLst, aCB, aBM, aSl, aPart, aNoPart, aDrop, aRet, aIfS, aPar, aAug, aSub, aUnp, aGNil, aGCons, aCall, aYes, aNilEq, aJoin, wRange1, wAny, wStr, wEnum, wEnumD, wKeys, wVals, wItems, lkAt, aLc, aDc, aDc2, aDNew, aRev, aSetd, aGet1, aGet2, isD, dAt, Ab.keyOf, wipeA, List.set_cons_zero, List.set_cons_succ, asStrs_map, bSub, bAdd, bIAdd, bNeg, bIx, bSl, bInt, bSet, bPop, bInsert, bAppend, bExtend, bML, bIsB, one, bLen, bList, bTuple, bSum, bToInt, bDict, bSorted, bMax, bAny, bAll, asBls_map, bMulL, aDispF, aSortSet, aListVals, aCallK, tyA, at0, at1, at2, at3, ixL0, ixL1, ixL2, set0, set1, set2, updA_same, updA_twice, List.append_nil, List.cons_append, List.nil_append, id_eq, eT, isTupD, if_neg Bool.false_ne_true]
        refine .keep (seq_i ?_)
        simp only [aNext, aAsg, aName, aVar, slot, put, aC, aOp, aUn, aTest, aChain, aAnd, aOr, aNot, aAndV, aOrV, aNotV, aIf, aNil, aCons, aTup, aLst, aCB, aBM, aSl, aPart, aNoPart, aDrop, aRet, aIfS, aPar, aAug, aSub, aUnp, aGNil, aGCons, aCall, aYes, aNilEq, aJoin, wRange1, wAny, wStr, wEnum, wEnumD, wKeys, wVals, wItems, lkAt, aLc, aDc, aDc2, aDNew, aRev, aSetd, aGet1, aGet2, isD, dAt, Ab.keyOf, wipeA, List.set_cons_zero, List.set_cons_succ, asStrs_map, bSub, bAdd, bIAdd, bNeg, bIx, bSl, bInt, bSet, bPop, bInsert, bAppend, bExtend, bML, bIsB, one, bLen, bList, bTuple, bSum, bToInt, bDict, bSorted, bMax, bAny, bAll, asBls_map, bMulL, aDispF, aSortSet, aListVals, aCallK, tyA, at0, at1, at2, at3, ixL0, ixL1, ixL2, set0, set1, set2, updA_same, updA_twice, List.append_nil, List.cons_append, List.nil_append, id_eq, eS, isStrD, if_true]
        refine ⟨trivial, ?_⟩
        by_cases h4 : r < 4
        · rw [decide_eq_true h4, if_pos rfl]
          have hup := upper_ascii (x := z) f1
          have sA : (Str.ofString "a").length = 1 := rfl
          have sB : (Str.ofString " ").length = 1 := rfl
          simp only [aNext, aAsg, aName, aVar, slot, put, aC, aOp, aUn, aTest, aChain, aAnd, aOr, aNot, aAndV, aOrV, aNotV, aIf, aNil, aCons, aTup, aLst, aCB, aBM, aSl, aPart, aNoPart, aDrop, aRet, aIfS, aPar, aAug, aSub, aUnp, aGNil, aGCons, aCall, aYes, aNilEq, aJoin, wRange1, wAny, wStr, wEnum, wEnumD, wKeys, wVals, wItems, lkAt, aLc, aDc, aDc2, aDNew, aRev, aSetd, aGet1, aGet2, isD, dAt, Ab.keyOf, wipeA, List.set_cons_zero, List.set_cons_succ, asStrs_map, bSub, bAdd, bIAdd, bNeg, bIx, bSl, bInt, bSet, bPop, bInsert, bAppend, bExtend, bML, bIsB, one, bLen, bList, bTuple, bSum, bToInt, bDict, bSorted, bMax, bAny, bAll, asBls_map, bMulL, aDispF, aSortSet, aListVals, aCallK, tyA, at0, at1, at2, at3, ixL0, ixL1, ixL2, set0, set1, set2, updA_same, updA_twice, List.append_nil, List.cons_append, List.nil_append, id_eq, aUpper, sA, sB]
          refine ⟨sz (by omega), by omega, sz (by omega), sz (by omega), sz (by simp), fun p hp => ?_⟩
          have wp := fun ys => w.free hp (nol ys)
          have sp2 := fun ys => Sub.refl.new hp (o := AO.lst ys)
          have str : ∀ (y : Str) ys, (∀ c ∈ y.cps.toList, c < 128) → y.length ≤ z.length + 1 → Fin K q (.str y) (updA m p (.lst ys)) := fun y ys h1 h2 => by
            refine give _ (.str y) _ (sp2 ys) (wp ys) (.str y) ?_ ?_ ?_
            · simp only [Ab.fineD, List.all_eq_true, decide_eq_true_eq]
              exact h1
            · rw [str_size, str_size]
              omega
            · simp only [PyData.depth]
              omega
          have : r = 0 ∨ r = 1 ∨ r = 2 ∨ r = 3 := by omega
          rcases this with rfl | rfl | rfl | rfl
          · simp only [at0]
            refine str _ _ (fun c hc => ?_) (by rw [len_add, sA]; omega)
            rw [cps_add] at hc
            rcases List.mem_append.mp hc with hc | hc
            · exact f1 c hc
            · exact (by decide +kernel : ∀ c ∈ (Str.ofString "a").cps.toList, c < 128) c hc
          · simp only [at1]
            rw [hup]
            refine str _ _ (fun c hc => ?_) ?_
            · rw [Array.toList_map] at hc
              obtain ⟨c', hc', rfl⟩ := List.mem_map.mp hc
              have := f1 c' hc'
              unfold up1
              split <;> omega
            · show (z.cps.map up1).size ≤ _
              rw [Array.size_map]
              exact Nat.le_succ _
          · simp only [at2]
            refine str _ _ (fun c hc => ?_) ?_
            · rw [cutS_G] at hc
              exact f1 c (cutG_mem hc)
            · rw [str_len, cutS_G, cutG_from (by decide), List.length_drop, ← str_len]
              omega
          · simp only [at3]
            refine str _ _ (fun c hc => ?_) (by rw [len_add, sB]; omega)
            rw [cps_add] at hc
            rcases List.mem_append.mp hc with hc | hc
            · exact f1 c hc
            · exact (by decide +kernel : ∀ c ∈ (Str.ofString " ").cps.toList, c < 128) c hc
        · rw [decide_eq_false h4, if_neg Bool.false_ne_true]
          refine .keep (seq_i ?_)
          simp only [aNext, aAsg, aName, aVar, slot, put, aC, aOp, aUn, aTest, aChain, aAnd, aOr, aNot, aAndV, aOrV, aNotV, aIf, aNil, aCons, aTup, aLst, aCB, aBM, aSl, aPart, aNoPart, aDrop, aRet, aIfS, aPar, aAug, aSub, aUnp, aGNil, aGCons, aCall, aYes, aNilEq, aJoin, wRange1, wAny, wStr, wEnum, wEnumD, wKeys, wVals, wItems, lkAt, aLc, aDc, aDc2, aDNew, aRev, aSetd, aGet1, aGet2, isD, dAt, Ab.keyOf, wipeA, List.set_cons_zero, List.set_cons_succ, asStrs_map, bSub, bAdd, bIAdd, bNeg, bIx, bSl, bInt, bSet, bPop, bInsert, bAppend, bExtend, bML, bIsB, one, bLen, bList, bTuple, bSum, bToInt, bDict, bSorted, bMax, bAny, bAll, asBls_map, bMulL, aDispF, aSortSet, aListVals, aCallK, tyA, at0, at1, at2, at3, ixL0, ixL1, ixL2, set0, set1, set2, updA_same, updA_twice, List.append_nil, List.cons_append, List.nil_append, id_eq, eI, isIntD, if_neg Bool.false_ne_true]
          exact .keep odd
      | int i =>
        refine seq_i ?_
        simp only [aNext, aAsg, aName, aVar, slot, put, aC, aOp, aUn, aTest, aChain, aAnd, aOr, aNot, aAndV, aOrV, aNotV, aIf, aNil, aCons, aTup, aLst, aCB, aBM, aSl, aPart, aNoPart, aDrop, aRet, aIfS, aPar, aAug, aSub, aUnp, aGNil, aGCons, aCall, aYes, aNilEq, aJoin, wRange1, wAny, wStr, wEnum, wEnumD, wKeys, wVals, wItems, lkAt, aLc, aDc, aDc2, aDNew, aRev, aSetd, aGet1, aGet2, isD, dAt, Ab.keyOf, wipeA, List.set_cons_zero, List.set_cons_succ, asStrs_map, bSub, bAdd, bIAdd, bNeg, bIx, bSl, bInt, bSet, bPop, bInsert, bAppend, bExtend, bML, bIsB, one, bLen, bList, bTuple, bSum, bToInt, bDict, bSorted, bMax, bAny, bAll, asBls_map, bMulL, aDispF, aSortSet, aListVals, aCallK, tyA, at0, at1, at2, at3, ixL0, ixL1, ixL2, set0, set1, set2, updA_same, updA_twice, List.append_nil, List.cons_append, List.nil_append, id_eq, eT, isTupD, if_neg Bool.false_ne_true]
        refine .keep (seq_i ?_)
        simp only [aNext, aAsg, aName, aVar, slot, put, aC, aOp, aUn, aTest, aChain, aAnd, aOr, aNot, aAndV, aOrV, aNotV, aIf, aNil, aCons, aTup, aLst, aCB, aBM, aSl, aPart, aNoPart, aDrop, aRet, aIfS, aPar, aAug, aSub, aUnp, aGNil, aGCons, aCall, aYes, aNilEq, aJoin, wRange1, wAny, wStr, wEnum, wEnumD, wKeys, wVals, wItems, lkAt, aLc, aDc, aDc2, aDNew, aRev, aSetd, aGet1, aGet2, isD, dAt, Ab.keyOf, wipeA, List.set_cons_zero, List.set_cons_succ, asStrs_map, bSub, bAdd, bIAdd, bNeg, bIx, bSl, bInt, bSet, bPop, bInsert, bAppend, bExtend, bML, bIsB, one, bLen, bList, bTuple, bSum, bToInt, bDict, bSorted, bMax, bAny, bAll, asBls_map, bMulL, aDispF, aSortSet, aListVals, aCallK, tyA, at0, at1, at2, at3, ixL0, ixL1, ixL2, set0, set1, set2, updA_same, updA_twice, List.append_nil, List.cons_append, List.nil_append, id_eq, eS, isStrD, if_neg Bool.false_ne_true]
        refine .keep (seq_i ?_)
        simp only [aNext, aAsg, aName, aVar, slot, put, aC, aOp, aUn, aTest, aChain, aAnd, aOr, aNot, aAndV, aOrV, aNotV, aIf, aNil, aCons, aTup, aLst, aCB, aBM, aSl, aPart, aNoPart, aDrop, aRet, aIfS, aPar, aAug, aSub, aUnp, aGNil, aGCons, aCall, aYes, aNilEq, aJoin, wRange1, wAny, wStr, wEnum, wEnumD, wKeys, wVals, wItems, lkAt, aLc, aDc, aDc2, aDNew, aRev, aSetd, aGet1, aGet2, isD, dAt, Ab.keyOf, wipeA, List.set_cons_zero, List.set_cons_succ, asStrs_map, bSub, bAdd, bIAdd, bNeg, bIx, bSl, bInt, bSet, bPop, bInsert, bAppend, bExtend, bML, bIsB, one, bLen, bList, bTuple, bSum, bToInt, bDict, bSorted, bMax, bAny, bAll, asBls_map, bMulL, aDispF, aSortSet, aListVals, aCallK, tyA, at0, at1, at2, at3, ixL0, ixL1, ixL2, set0, set1, set2, updA_same, updA_twice, List.append_nil, List.cons_append, List.nil_append, id_eq, eI, isIntD, if_true]
        refine ⟨trivial, ?_⟩
        by_cases h3 : r < 3
        · rw [decide_eq_true h3, if_pos rfl]
          have hi : i.natAbs < 10 ^ 40 := by simpa only [Ab.fineD, decide_eq_true_eq] using hf
          have hj : (0 - i).natAbs < 10 ^ 40 := by
            have : (0 - i).natAbs = i.natAbs := by omega
            rw [this]
            exact hi
          have wj := int_weight hj
          obtain ⟨td1, td2⟩ := text_digits hi
          simp only [aNext, aAsg, aName, aVar, slot, put, aC, aOp, aUn, aTest, aChain, aAnd, aOr, aNot, aAndV, aOrV, aNotV, aIf, aNil, aCons, aTup, aLst, aCB, aBM, aSl, aPart, aNoPart, aDrop, aRet, aIfS, aPar, aAug, aSub, aUnp, aGNil, aGCons, aCall, aYes, aNilEq, aJoin, wRange1, wAny, wStr, wEnum, wEnumD, wKeys, wVals, wItems, lkAt, aLc, aDc, aDc2, aDNew, aRev, aSetd, aGet1, aGet2, isD, dAt, Ab.keyOf, wipeA, List.set_cons_zero, List.set_cons_succ, asStrs_map, bSub, bAdd, bIAdd, bNeg, bIx, bSl, bInt, bSet, bPop, bInsert, bAppend, bExtend, bML, bIsB, one, bLen, bList, bTuple, bSum, bToInt, bDict, bSorted, bMax, bAny, bAll, asBls_map, bMulL, aDispF, aSortSet, aListVals, aCallK, tyA, at0, at1, at2, at3, ixL0, ixL1, ixL2, set0, set1, set2, updA_same, updA_twice, List.append_nil, List.cons_append, List.nil_append, id_eq, bq_int, id_eq, bSubB, bTextB]
          refine ⟨log40 hi (by decide), sz (by simp), fun p hp => ?_⟩
          have wp := fun ys => w.free hp (nol ys)
          have sp2 := fun ys => Sub.refl.new hp (o := AO.lst ys)
          have : r = 0 ∨ r = 1 ∨ r = 2 := by omega
          rcases this with rfl | rfl | rfl
          · simp only [at0]
            exact give _ (.bool _) _ (sp2 _) (wp _) (.bl _) (by simp only [Ab.fineD]) (by simp only [PyData.weight]; omega) (by simp only [PyData.depth]; omega)
          · simp only [at1]
            exact give _ (.int _) _ (sp2 _) (wp _) (.int _) (by simp only [Ab.fineD]; exact decide_eq_true hj) (by omega) (by simp only [PyData.depth]; omega)
          · simp only [at2]
            exact give _ (.str _) _ (sp2 _) (wp _) (.str _) td1 (by omega) (by simp only [PyData.depth]; omega)
        · rw [decide_eq_false h3, if_neg Bool.false_ne_true]
          exact .keep odd
      | bl b =>
        refine seq_i ?_
        simp only [aNext, aAsg, aName, aVar, slot, put, aC, aOp, aUn, aTest, aChain, aAnd, aOr, aNot, aAndV, aOrV, aNotV, aIf, aNil, aCons, aTup, aLst, aCB, aBM, aSl, aPart, aNoPart, aDrop, aRet, aIfS, aPar, aAug, aSub, aUnp, aGNil, aGCons, aCall, aYes, aNilEq, aJoin, wRange1, wAny, wStr, wEnum, wEnumD, wKeys, wVals, wItems, lkAt, aLc, aDc, aDc2, aDNew, aRev, aSetd, aGet1, aGet2, isD, dAt, Ab.keyOf, wipeA, List.set_cons_zero, List.set_cons_succ, asStrs_map, bSub, bAdd, bIAdd, bNeg, bIx, bSl, bInt, bSet, bPop, bInsert, bAppend, bExtend, bML, bIsB, one, bLen, bList, bTuple, bSum, bToInt, bDict, bSorted, bMax, bAny, bAll, asBls_map, bMulL, aDispF, aSortSet, aListVals, aCallK, tyA, at0, at1, at2, at3, ixL0, ixL1, ixL2, set0, set1, set2, updA_same, updA_twice, List.append_nil, List.cons_append, List.nil_append, id_eq, eT, isTupD, if_neg Bool.false_ne_true]
        refine .keep (seq_i ?_)
        simp only [aNext, aAsg, aName, aVar, slot, put, aC, aOp, aUn, aTest, aChain, aAnd, aOr, aNot, aAndV, aOrV, aNotV, aIf, aNil, aCons, aTup, aLst, aCB, aBM, aSl, aPart, aNoPart, aDrop, aRet, aIfS, aPar, aAug, aSub, aUnp, aGNil, aGCons, aCall, aYes, aNilEq, aJoin, wRange1, wAny, wStr, wEnum, wEnumD, wKeys, wVals, wItems, lkAt, aLc, aDc, aDc2, aDNew, aRev, aSetd, aGet1, aGet2, isD, dAt, Ab.keyOf, wipeA, List.set_cons_zero, List.set_cons_succ, asStrs_map, bSub, bAdd, bIAdd, bNeg, bIx, bSl, bInt, bSet, bPop, bInsert, bAppend, bExtend, bML, bIsB, one, bLen, bList, bTuple, bSum, bToInt, bDict, bSorted, bMax, bAny, bAll, asBls_map, bMulL, aDispF, aSortSet, aListVals, aCallK, tyA, at0, at1, at2, at3, ixL0, ixL1, ixL2, set0, set1, set2, updA_same, updA_twice, List.append_nil, List.cons_append, List.nil_append, id_eq, eS, isStrD, if_neg Bool.false_ne_true]
        refine .keep (seq_i ?_)
        simp only [aNext, aAsg, aName, aVar, slot, put, aC, aOp, aUn, aTest, aChain, aAnd, aOr, aNot, aAndV, aOrV, aNotV, aIf, aNil, aCons, aTup, aLst, aCB, aBM, aSl, aPart, aNoPart, aDrop, aRet, aIfS, aPar, aAug, aSub, aUnp, aGNil, aGCons, aCall, aYes, aNilEq, aJoin, wRange1, wAny, wStr, wEnum, wEnumD, wKeys, wVals, wItems, lkAt, aLc, aDc, aDc2, aDNew, aRev, aSetd, aGet1, aGet2, isD, dAt, Ab.keyOf, wipeA, List.set_cons_zero, List.set_cons_succ, asStrs_map, bSub, bAdd, bIAdd, bNeg, bIx, bSl, bInt, bSet, bPop, bInsert, bAppend, bExtend, bML, bIsB, one, bLen, bList, bTuple, bSum, bToInt, bDict, bSorted, bMax, bAny, bAll, asBls_map, bMulL, aDispF, aSortSet, aListVals, aCallK, tyA, at0, at1, at2, at3, ixL0, ixL1, ixL2, set0, set1, set2, updA_same, updA_twice, List.append_nil, List.cons_append, List.nil_append, id_eq, eI, isIntD, if_true]
        refine ⟨trivial, ?_⟩
        by_cases h3 : r < 3
        · rw [decide_eq_true h3, if_pos rfl]
          have c1 : canA (.bl b) = true := by cases b <;> decide
          have c2 : canA (.int 1) = true := by decide +kernel
          have tb : Ab.fineD (.str (if b = true then "True" else "False")) = true ∧ (PyData.str (if b = true then "True" else "False")).weight ≤ 5 := by cases b <;> decide +kernel
          have ib : Ab.fineD (.int (0 - if b = true then 1 else 0)) = true ∧ (PyData.int (0 - if b = true then 1 else 0)).weight ≤ 1 := by cases b <;> decide +kernel
          show canA (.bl b) = true ∧ canA (.int 1) = true ∧ _ ∧ _
          simp only [aNext, aAsg, aName, aVar, slot, put, aC, aOp, aUn, aTest, aChain, aAnd, aOr, aNot, aAndV, aOrV, aNotV, aIf, aNil, aCons, aTup, aLst, aCB, aBM, aSl, aPart, aNoPart, aDrop, aRet, aIfS, aPar, aAug, aSub, aUnp, aGNil, aGCons, aCall, aYes, aNilEq, aJoin, wRange1, wAny, wStr, wEnum, wEnumD, wKeys, wVals, wItems, lkAt, aLc, aDc, aDc2, aDNew, aRev, aSetd, aGet1, aGet2, isD, dAt, Ab.keyOf, wipeA, List.set_cons_zero, List.set_cons_succ, asStrs_map, bSub, bAdd, bIAdd, bNeg, bIx, bSl, bInt, bSet, bPop, bInsert, bAppend, bExtend, bML, bIsB, one, bLen, bList, bTuple, bSum, bToInt, bDict, bSorted, bMax, bAny, bAll, asBls_map, bMulL, aDispF, aSortSet, aListVals, aCallK, tyA, at0, at1, at2, at3, ixL0, ixL1, ixL2, set0, set1, set2, updA_same, updA_twice, List.append_nil, List.cons_append, List.nil_append, id_eq, bSubB, bTextB]
          refine ⟨c1, c2, by simp only [toD, PyData.depth]; omega, sz (by simp), fun p hp => ?_⟩
          have wp := fun ys => w.free hp (nol ys)
          have sp2 := fun ys => Sub.refl.new hp (o := AO.lst ys)
          have : r = 0 ∨ r = 1 ∨ r = 2 := by omega
          rcases this with rfl | rfl | rfl
          · simp only [at0]
            exact give _ (.bool _) _ (sp2 _) (wp _) (.bl _) (by simp only [Ab.fineD]) (by simp only [PyData.weight]; omega) (by simp only [PyData.depth]; omega)
          · simp only [at1]
            exact give _ (.int _) _ (sp2 _) (wp _) (.int _) ib.1 (by have := ib.2; omega) (by simp only [PyData.depth]; omega)
          · simp only [at2]
            exact give _ (.str _) _ (sp2 _) (wp _) (.str _) tb.1 (by have := tb.2; omega) (by simp only [PyData.depth]; omega)
        · rw [decide_eq_false h3, if_neg Bool.false_ne_true]
          exact .keep odd
      | _ =>
        refine seq_i ?_
        simp only [aNext, aAsg, aName, aVar, slot, put, aC, aOp, aUn, aTest, aChain, aAnd, aOr, aNot, aAndV, aOrV, aNotV, aIf, aNil, aCons, aTup, aLst, aCB, aBM, aSl, aPart, aNoPart, aDrop, aRet, aIfS, aPar, aAug, aSub, aUnp, aGNil, aGCons, aCall, aYes, aNilEq, aJoin, wRange1, wAny, wStr, wEnum, wEnumD, wKeys, wVals, wItems, lkAt, aLc, aDc, aDc2, aDNew, aRev, aSetd, aGet1, aGet2, isD, dAt, Ab.keyOf, wipeA, List.set_cons_zero, List.set_cons_succ, asStrs_map, bSub, bAdd, bIAdd, bNeg, bIx, bSl, bInt, bSet, bPop, bInsert, bAppend, bExtend, bML, bIsB, one, bLen, bList, bTuple, bSum, bToInt, bDict, bSorted, bMax, bAny, bAll, asBls_map, bMulL, aDispF, aSortSet, aListVals, aCallK, tyA, at0, at1, at2, at3, ixL0, ixL1, ixL2, set0, set1, set2, updA_same, updA_twice, List.append_nil, List.cons_append, List.nil_append, id_eq, eT, isTupD, if_neg Bool.false_ne_true]
        refine .keep (seq_i ?_)
        simp only [aNext, aAsg, aName, aVar, slot, put, aC, aOp, aUn, aTest, aChain, aAnd, aOr, aNot, aAndV, aOrV, aNotV, aIf, aNil, aCons, aTup, aLst, aCB, aBM, aSl, aPart, aNoPart, aDrop, aRet, aIfS, aPar, aAug, aSub, aUnp, aGNil, aGCons, aCall, aYes, aNilEq, aJoin, wRange1, wAny, wStr, wEnum, wEnumD, wKeys, wVals, wItems, lkAt, aLc, aDc, aDc2, aDNew, aRev, aSetd, aGet1, aGet2, isD, dAt, Ab.keyOf, wipeA, List.set_cons_zero, List.set_cons_succ, asStrs_map, bSub, bAdd, bIAdd, bNeg, bIx, bSl, bInt, bSet, bPop, bInsert, bAppend, bExtend, bML, bIsB, one, bLen, bList, bTuple, bSum, bToInt, bDict, bSorted, bMax, bAny, bAll, asBls_map, bMulL, aDispF, aSortSet, aListVals, aCallK, tyA, at0, at1, at2, at3, ixL0, ixL1, ixL2, set0, set1, set2, updA_same, updA_twice, List.append_nil, List.cons_append, List.nil_append, id_eq, eS, isStrD, if_neg Bool.false_ne_true]
        refine .keep (seq_i ?_)
        simp only [aNext, aAsg, aName, aVar, slot, put, aC, aOp, aUn, aTest, aChain, aAnd, aOr, aNot, aAndV, aOrV, aNotV, aIf, aNil, aCons, aTup, aLst, aCB, aBM, aSl, aPart, aNoPart, aDrop, aRet, aIfS, aPar, aAug, aSub, aUnp, aGNil, aGCons, aCall, aYes, aNilEq, aJoin, wRange1, wAny, wStr, wEnum, wEnumD, wKeys, wVals, wItems, lkAt, aLc, aDc, aDc2, aDNew, aRev, aSetd, aGet1, aGet2, isD, dAt, Ab.keyOf, wipeA, List.set_cons_zero, List.set_cons_succ, asStrs_map, bSub, bAdd, bIAdd, bNeg, bIx, bSl, bInt, bSet, bPop, bInsert, bAppend, bExtend, bML, bIsB, one, bLen, bList, bTuple, bSum, bToInt, bDict, bSorted, bMax, bAny, bAll, asBls_map, bMulL, aDispF, aSortSet, aListVals, aCallK, tyA, at0, at1, at2, at3, ixL0, ixL1, ixL2, set0, set1, set2, updA_same, updA_twice, List.append_nil, List.cons_append, List.nil_append, id_eq, eI, isIntD, if_neg Bool.false_ne_true]
        exact .keep odd
    · intro n2 hn2
      have no := hn2 _ m (.keep ⟨rfl, rfl⟩)
      cases od with
      | @tup fs us hf2 =>
        cases hf2 with
        | nil =>
          simp only [aNext, aAsg, aName, aVar, slot, put, aC, aOp, aUn, aTest, aChain, aAnd, aOr, aNot, aAndV, aOrV, aNotV, aIf, aNil, aCons, aTup, aLst, aCB, aBM, aSl, aPart, aNoPart, aDrop, aRet, aIfS, aPar, aAug, aSub, aUnp, aGNil, aGCons, aCall, aYes, aNilEq, aJoin, wRange1, wAny, wStr, wEnum, wEnumD, wKeys, wVals, wItems, lkAt, aLc, aDc, aDc2, aDNew, aRev, aSetd, aGet1, aGet2, isD, dAt, Ab.keyOf, wipeA, List.set_cons_zero, List.set_cons_succ, asStrs_map, bSub, bAdd, bIAdd, bNeg, bIx, bSl, bInt, bSet, bPop, bInsert, bAppend, bExtend, bML, bIsB, one, bLen, bList, bTuple, bSum, bToInt, bDict, bSorted, bMax, bAny, bAll, asBls_map, bMulL, aDispF, aSortSet, aListVals, aCallK, tyA, at0, at1, at2, at3, ixL0, ixL1, ixL2, set0, set1, set2, updA_same, updA_twice, List.append_nil, List.cons_append, List.nil_append, id_eq, eT, isTupD, if_true, bq_int, List.length_cons, List.length_nil, spDraw]
          exact no
        | @cons a u fs us oa hf3 =>
          cases hf3 with
          | nil =>
            simp only [aNext, aAsg, aName, aVar, slot, put, aC, aOp, aUn, aTest, aChain, aAnd, aOr, aNot, aAndV, aOrV, aNotV, aIf, aNil, aCons, aTup, aLst, aCB, aBM, aSl, aPart, aNoPart, aDrop, aRet, aIfS, aPar, aAug, aSub, aUnp, aGNil, aGCons, aCall, aYes, aNilEq, aJoin, wRange1, wAny, wStr, wEnum, wEnumD, wKeys, wVals, wItems, lkAt, aLc, aDc, aDc2, aDNew, aRev, aSetd, aGet1, aGet2, isD, dAt, Ab.keyOf, wipeA, List.set_cons_zero, List.set_cons_succ, asStrs_map, bSub, bAdd, bIAdd, bNeg, bIx, bSl, bInt, bSet, bPop, bInsert, bAppend, bExtend, bML, bIsB, one, bLen, bList, bTuple, bSum, bToInt, bDict, bSorted, bMax, bAny, bAll, asBls_map, bMulL, aDispF, aSortSet, aListVals, aCallK, tyA, at0, at1, at2, at3, ixL0, ixL1, ixL2, set0, set1, set2, updA_same, updA_twice, List.append_nil, List.cons_append, List.nil_append, id_eq, eT, isTupD, if_true, bq_int, List.length_cons, List.length_nil, spDraw]
            exact no
          | @cons b v fs us ob hf4 =>
            cases hf4 with
            | @cons b3 v3 fs us ob3 hf5 =>
              have e : ((us.length : Int) + 1 + 1 + 1 = 2) = False := eq_false (by omega)
              simp only [aNext, aAsg, aName, aVar, slot, put, aC, aOp, aUn, aTest, aChain, aAnd, aOr, aNot, aAndV, aOrV, aNotV, aIf, aNil, aCons, aTup, aLst, aCB, aBM, aSl, aPart, aNoPart, aDrop, aRet, aIfS, aPar, aAug, aSub, aUnp, aGNil, aGCons, aCall, aYes, aNilEq, aJoin, wRange1, wAny, wStr, wEnum, wEnumD, wKeys, wVals, wItems, lkAt, aLc, aDc, aDc2, aDNew, aRev, aSetd, aGet1, aGet2, isD, dAt, Ab.keyOf, wipeA, List.set_cons_zero, List.set_cons_succ, asStrs_map, bSub, bAdd, bIAdd, bNeg, bIx, bSl, bInt, bSet, bPop, bInsert, bAppend, bExtend, bML, bIsB, one, bLen, bList, bTuple, bSum, bToInt, bDict, bSorted, bMax, bAny, bAll, asBls_map, bMulL, aDispF, aSortSet, aListVals, aCallK, tyA, at0, at1, at2, at3, ixL0, ixL1, ixL2, set0, set1, set2, updA_same, updA_twice, List.append_nil, List.cons_append, List.nil_append, id_eq, eT, isTupD, if_true, bq_int, List.length_cons, Int.natCast_add, e]
              exact no
            | nil =>
              have fab : Ab.fineD a = true ∧ Ab.fineD b = true := by simpa only [Ab.fineD, finesD, Bool.and_true, Bool.and_eq_true] using hf
              have wab : (PyData.tuple [a, b]).weight = a.weight + b.weight + 2 := by simp only [PyData.weight, PyData.weightAll]; omega
              have dab : (PyData.tuple [a, b]).depth = max a.depth b.depth + 1 := by simp only [PyData.depth, PyData.depthAll]; omega
              simp only [aNext, aAsg, aName, aVar, slot, put, aC, aOp, aUn, aTest, aChain, aAnd, aOr, aNot, aAndV, aOrV, aNotV, aIf, aNil, aCons, aTup, aLst, aCB, aBM, aSl, aPart, aNoPart, aDrop, aRet, aIfS, aPar, aAug, aSub, aUnp, aGNil, aGCons, aCall, aYes, aNilEq, aJoin, wRange1, wAny, wStr, wEnum, wEnumD, wKeys, wVals, wItems, lkAt, aLc, aDc, aDc2, aDNew, aRev, aSetd, aGet1, aGet2, isD, dAt, Ab.keyOf, wipeA, List.set_cons_zero, List.set_cons_succ, asStrs_map, bSub, bAdd, bIAdd, bNeg, bIx, bSl, bInt, bSet, bPop, bInsert, bAppend, bExtend, bML, bIsB, one, bLen, bList, bTuple, bSum, bToInt, bDict, bSorted, bMax, bAny, bAll, asBls_map, bMulL, aDispF, aSortSet, aListVals, aCallK, tyA, at0, at1, at2, at3, ixL0, ixL1, ixL2, set0, set1, set2, updA_same, updA_twice, List.append_nil, List.cons_append, List.nil_append, id_eq, eT, isTupD, if_true, bq_int, List.length_cons, List.length_nil, spDraw]
              refine ⟨⟨c, hd⟩, by decide, by decide, fun r r0 r1 => ⟨trivial, ?_⟩⟩
              by_cases h0 : 0 < r
              · rw [decide_eq_true h0, if_pos rfl]
                refine seq_i ?_
                simp only [aNext, aAsg, aName, aVar, slot, put, aC, aOp, aUn, aTest, aChain, aAnd, aOr, aNot, aAndV, aOrV, aNotV, aIf, aNil, aCons, aTup, aLst, aCB, aBM, aSl, aPart, aNoPart, aDrop, aRet, aIfS, aPar, aAug, aSub, aUnp, aGNil, aGCons, aCall, aYes, aNilEq, aJoin, wRange1, wAny, wStr, wEnum, wEnumD, wKeys, wVals, wItems, lkAt, aLc, aDc, aDc2, aDNew, aRev, aSetd, aGet1, aGet2, isD, dAt, Ab.keyOf, wipeA, List.set_cons_zero, List.set_cons_succ, asStrs_map, bSub, bAdd, bIAdd, bNeg, bIx, bSl, bInt, bSet, bPop, bInsert, bAppend, bExtend, bML, bIsB, one, bLen, bList, bTuple, bSum, bToInt, bDict, bSorted, bMax, bAny, bAll, asBls_map, bMulL, aDispF, aSortSet, aListVals, aCallK, tyA, at0, at1, at2, at3, ixL0, ixL1, ixL2, set0, set1, set2, updA_same, updA_twice, List.append_nil, List.cons_append, List.nil_append, id_eq, spDraw]
                refine ⟨⟨c, hd⟩, by decide, by decide, fun s t0 t1 => .keep ?_⟩
                have : s = 0 ∨ s = 1 := by omega
                rcases this with rfl | rfl
                · simp only [aNext, aAsg, aName, aVar, slot, put, aC, aOp, aUn, aTest, aChain, aAnd, aOr, aNot, aAndV, aOrV, aNotV, aIf, aNil, aCons, aTup, aLst, aCB, aBM, aSl, aPart, aNoPart, aDrop, aRet, aIfS, aPar, aAug, aSub, aUnp, aGNil, aGCons, aCall, aYes, aNilEq, aJoin, wRange1, wAny, wStr, wEnum, wEnumD, wKeys, wVals, wItems, lkAt, aLc, aDc, aDc2, aDNew, aRev, aSetd, aGet1, aGet2, isD, dAt, Ab.keyOf, wipeA, List.set_cons_zero, List.set_cons_succ, asStrs_map, bSub, bAdd, bIAdd, bNeg, bIx, bSl, bInt, bSet, bPop, bInsert, bAppend, bExtend, bML, bIsB, one, bLen, bList, bTuple, bSum, bToInt, bDict, bSorted, bMax, bAny, bAll, asBls_map, bMulL, aDispF, aSortSet, aListVals, aCallK, tyA, at0, at1, at2, at3, ixL0, ixL1, ixL2, set0, set1, set2, updA_same, updA_twice, List.append_nil, List.cons_append, List.nil_append, id_eq]
                  refine hsp _ _ _ (by omega) ⟨w, ⟨c, hd⟩, a, oa, fab.1, by omega, by omega, fun y e m' z1 z2 z3 z4 z5 z6 => ?_⟩
                  have c0 : cutA [u, v] none (some 0) = [] := by rw [cutA_G, cutG_to (by decide)]; rfl
                  have c1 : cutA [u, v] (some (0 + 1)) none = [v] := by rw [cutA_G, cutG_from (by decide)]; rfl
                  dsimp only
                  rw [c0, c1]
                  simp only [List.cons_append, List.nil_append, List.append_nil]
                  refine ⟨sz (by simp), sz (by simp), sz (by simp), give _ (.tuple [e, b]) _ z1 z2 (.tup (.cons z3 (.cons (ob.mono z1) .nil))) ?_ ?_ ?_⟩
                  · simp only [Ab.fineD, finesD, Bool.and_true, Bool.and_eq_true]
                    exact ⟨z4, fab.2⟩
                  · simp only [PyData.weight, PyData.weightAll]
                    omega
                  · simp only [PyData.depth, PyData.depthAll]
                    omega
                · simp only [aNext, aAsg, aName, aVar, slot, put, aC, aOp, aUn, aTest, aChain, aAnd, aOr, aNot, aAndV, aOrV, aNotV, aIf, aNil, aCons, aTup, aLst, aCB, aBM, aSl, aPart, aNoPart, aDrop, aRet, aIfS, aPar, aAug, aSub, aUnp, aGNil, aGCons, aCall, aYes, aNilEq, aJoin, wRange1, wAny, wStr, wEnum, wEnumD, wKeys, wVals, wItems, lkAt, aLc, aDc, aDc2, aDNew, aRev, aSetd, aGet1, aGet2, isD, dAt, Ab.keyOf, wipeA, List.set_cons_zero, List.set_cons_succ, asStrs_map, bSub, bAdd, bIAdd, bNeg, bIx, bSl, bInt, bSet, bPop, bInsert, bAppend, bExtend, bML, bIsB, one, bLen, bList, bTuple, bSum, bToInt, bDict, bSorted, bMax, bAny, bAll, asBls_map, bMulL, aDispF, aSortSet, aListVals, aCallK, tyA, at0, at1, at2, at3, ixL0, ixL1, ixL2, set0, set1, set2, updA_same, updA_twice, List.append_nil, List.cons_append, List.nil_append, id_eq]
                  refine hsp _ _ _ (by omega) ⟨w, ⟨c, hd⟩, b, ob, fab.2, by omega, by omega, fun y e m' z1 z2 z3 z4 z5 z6 => ?_⟩
                  have c0 : cutA [u, v] none (some 1) = [u] := by rw [cutA_G, cutG_to (by decide)]; rfl
                  have c1 : cutA [u, v] (some (1 + 1)) none = [] := by rw [cutA_G, cutG_from (by decide)]; rfl
                  dsimp only
                  rw [c0, c1]
                  simp only [List.cons_append, List.nil_append, List.append_nil]
                  refine ⟨sz (by simp), sz (by simp), sz (by simp), give _ (.tuple [a, e]) _ z1 z2 (.tup (.cons (oa.mono z1) (.cons z3 .nil))) ?_ ?_ ?_⟩
                  · simp only [Ab.fineD, finesD, Bool.and_true, Bool.and_eq_true]
                    exact ⟨fab.1, z4⟩
                  · simp only [PyData.weight, PyData.weightAll]
                    omega
                  · simp only [PyData.depth, PyData.depthAll]
                    omega
              · rw [decide_eq_false h0, if_neg Bool.false_ne_true]
                exact no
      | _ =>
        simp only [aNext, aAsg, aName, aVar, slot, put, aC, aOp, aUn, aTest, aChain, aAnd, aOr, aNot, aAndV, aOrV, aNotV, aIf, aNil, aCons, aTup, aLst, aCB, aBM, aSl, aPart, aNoPart, aDrop, aRet, aIfS, aPar, aAug, aSub, aUnp, aGNil, aGCons, aCall, aYes, aNilEq, aJoin, wRange1, wAny, wStr, wEnum, wEnumD, wKeys, wVals, wItems, lkAt, aLc, aDc, aDc2, aDNew, aRev, aSetd, aGet1, aGet2, isD, dAt, Ab.keyOf, wipeA, List.set_cons_zero, List.set_cons_succ, asStrs_map, bSub, bAdd, bIAdd, bNeg, bIx, bSl, bInt, bSet, bPop, bInsert, bAppend, bExtend, bML, bIsB, one, bLen, bList, bTuple, bSum, bToInt, bDict, bSorted, bMax, bAny, bAll, asBls_map, bMulL, aDispF, aSortSet, aListVals, aCallK, tyA, at0, at1, at2, at3, ixL0, ixL1, ixL2, set0, set1, set2, updA_same, updA_twice, List.append_nil, List.cons_append, List.nil_append, id_eq, eT, isTupD, if_neg Bool.false_ne_true]
        exact no
  · exact h.elim
end K01

namespace K01
open PySem PySem.Spec PyProof.Rows L2 Ab
variable {K : PySem.W.Frag}
theorem own_deck {m : AHp} {d c : Addr} (w : Own m) (ed : m d = none) (ec : m c = none) (ne : d ≠ c) : Own (updA (updA m c (.hid d)) d (.deck c)) := by
  intro a b q
  by_cases ha : a = d
  · subst ha
    rw [updA_same] at q
    cases q
    rw [updA_ne (Ne.symm ne), updA_same]
  · rw [updA_ne ha] at q
    by_cases hc : a = c
    · subst hc
      rw [updA_same] at q
      cases q
    · rw [updA_ne hc] at q
      have q2 := w a b q
      have n1 : b ≠ d := fun z => by rw [z, ed] at q2; cases q2
      have n2 : b ≠ c := fun z => by rw [z, ec] at q2; cases q2
      rw [updA_ne n1, updA_ne n2]
      exact q2
def spRightD : ASp := fun xs m q => match xs with
  | [x] => Own m ∧ ∃ d, OdAt m d x ∧ Fit d ∧ d.depth ≤ 70 ∧ q (.bl true) m
  | _ => False
theorem r__law_right : Reads K n__law_right (t__law_right K (spLawTerm 70) spWordD spIsTerm spWordD) spRightD := by
  intro H xs m q h g
  unfold spRightD at h
  split at h
  · rename_i x
    obtain ⟨w, d, od, f, hn, k⟩ := h
    have hw := f.2.1
    refine ⟨_, g, ?_⟩
    rw [show startA n__law_right [x] = [some x, none] from rfl]
    unfold t__law_right
    refine seq_i ?_
    simp only [aNext, aAsg, aName, aVar, slot, put, aC, aOp, aUn, aTest, aChain, aAnd, aOr, aNot, aAndV, aOrV, aNotV, aIf, aNil, aCons, aTup, aLst, aCB, aBM, aSl, aPart, aNoPart, aDrop, aRet, aIfS, aPar, aAug, aSub, aUnp, aGNil, aGCons, aCall, aYes, aNilEq, aJoin, wRange1, wAny, wStr, wEnum, wEnumD, wKeys, wVals, wItems, lkAt, aLc, aDc, aDc2, aDNew, aRev, aSetd, aGet1, aGet2, isD, dAt, Ab.keyOf, wipeA, List.set_cons_zero, List.set_cons_succ, asStrs_map, bSub, bAdd, bIAdd, bNeg, bIx, bSl, bInt, bSet, bPop, bInsert, bAppend, bExtend, bML, bIsB, one, bLen, bList, bTuple, bSum, bToInt, bDict, bSorted, bMax, bAny, bAll, asBls_map, bMulL, aDispF, aSortSet, aListVals, aCallK, tyA, at0, at1, at2, at3, ixL0, ixL1, ixL2, set0, set1, set2, updA_same, updA_twice, List.append_nil, List.cons_append, List.nil_append, id_eq]
    refine repr_od od f (.keep ?_)
    refine seq_i ?_
    simp only [aNext, aAsg, aName, aVar, slot, put, aC, aOp, aUn, aTest, aChain, aAnd, aOr, aNot, aAndV, aOrV, aNotV, aIf, aNil, aCons, aTup, aLst, aCB, aBM, aSl, aPart, aNoPart, aDrop, aRet, aIfS, aPar, aAug, aSub, aUnp, aGNil, aGCons, aCall, aYes, aNilEq, aJoin, wRange1, wAny, wStr, wEnum, wEnumD, wKeys, wVals, wItems, lkAt, aLc, aDc, aDc2, aDNew, aRev, aSetd, aGet1, aGet2, isD, dAt, Ab.keyOf, wipeA, List.set_cons_zero, List.set_cons_succ, asStrs_map, bSub, bAdd, bIAdd, bNeg, bIx, bSl, bInt, bSet, bPop, bInsert, bAppend, bExtend, bML, bIsB, one, bLen, bList, bTuple, bSum, bToInt, bDict, bSorted, bMax, bAny, bAll, asBls_map, bMulL, aDispF, aSortSet, aListVals, aCallK, tyA, at0, at1, at2, at3, ixL0, ixL1, ixL2, set0, set1, set2, updA_same, updA_twice, List.append_nil, List.cons_append, List.nil_append, id_eq, spIsTerm, spLawTerm, spWordD]
    refine ⟨w, d, od, hw, reprO_bl ⟨w, d, od, hn, hw, reprO_bl ?_⟩⟩
    show bEqB not _ _ _ _
    rw [bq_str]
    simp only [decide_true, Bool.not_true, if_neg Bool.false_ne_true]
    refine ⟨w, d, od, hw, reprO_bl ⟨w, d, od, hw, reprO_bl ?_⟩⟩
    show bEqB not _ _ _ _
    rw [bq_str]
    simp only [decide_true, Bool.not_true, if_neg Bool.false_ne_true]
    refine .keep ?_
    simp only [aNext, aAsg, aName, aVar, slot, put, aC, aOp, aUn, aTest, aChain, aAnd, aOr, aNot, aAndV, aOrV, aNotV, aIf, aNil, aCons, aTup, aLst, aCB, aBM, aSl, aPart, aNoPart, aDrop, aRet, aIfS, aPar, aAug, aSub, aUnp, aGNil, aGCons, aCall, aYes, aNilEq, aJoin, wRange1, wAny, wStr, wEnum, wEnumD, wKeys, wVals, wItems, lkAt, aLc, aDc, aDc2, aDNew, aRev, aSetd, aGet1, aGet2, isD, dAt, Ab.keyOf, wipeA, List.set_cons_zero, List.set_cons_succ, asStrs_map, bSub, bAdd, bIAdd, bNeg, bIx, bSl, bInt, bSet, bPop, bInsert, bAppend, bExtend, bML, bIsB, one, bLen, bList, bTuple, bSum, bToInt, bDict, bSorted, bMax, bAny, bAll, asBls_map, bMulL, aDispF, aSortSet, aListVals, aCallK, tyA, at0, at1, at2, at3, ixL0, ixL1, ixL2, set0, set1, set2, updA_same, updA_twice, List.append_nil, List.cons_append, List.nil_append, id_eq]
    refine repr_od od f ?_
    show bEqB id _ _ _ _
    rw [bq_str]
    simp only [decide_true, id_eq]
    exact Fin.same k
  · exact h.elim
def OkAll (ds : List PyData) : Prop := ∀ e ∈ ds, Ab.fineD e = true ∧ e.weight ≤ 30000 ∧ e.depth ≤ 65
theorem OkAll.fit {ds : List PyData} (h : OkAll ds) {e : PyData} (he : e ∈ ds) : Fit e ∧ e.depth ≤ 70 := by
  obtain ⟨h1, h2, h3⟩ := h e he
  exact ⟨⟨h1, by omega, by omega⟩, by omega⟩
def smallD2 (e : PyData) : Bool := Ab.fineD e && decide (e.weight ≤ 300) && decide (e.depth ≤ 60)
def oddA : List PyData := [.none, .bool true, .bool false, .int 0, .int (-1), .int 1000000000000000000000000000000000000000, .str "", .str "a", .str "A", .str "abcdefgh", .str "abcdefghi", .str "a1", .str " ", .str "?", .tuple [], .list [], .dict []]
def oddB : List PyData := [.tuple [.int 1, .int 2], .tuple [.int 1, .int 2, .int 3], .tuple [.str "?", .int 0], .tuple [.str "?", .int (-1)], .tuple [.str "?", .bool false], .tuple [.str "?", .str "a"], .tuple [.str "a", .str "?"], .dict [(.int 1, .int 2)]]
def oddC : List PyData := [.tuple [.tuple [.str "?", .int 1], .tuple [.str "?"]]]
theorem oddA_ok : oddA.all smallD2 = true := by decide +kernel
theorem oddB_ok : oddB.all smallD2 = true := by decide +kernel
theorem oddC_ok : oddC.all smallD2 = true := by decide +kernel
theorem small2_ok {e : PyData} (h : smallD2 e = true) : Ab.fineD e = true ∧ e.weight ≤ 30000 ∧ e.depth ≤ 65 := by
  unfold smallD2 at h
  simp only [Bool.and_eq_true, decide_eq_true_eq] at h
  exact ⟨h.1.1, by omega, by omega⟩
theorem odd_ok {e : PyData} (h1 : Ab.fineD e = true) (h2 : e.weight ≤ 30000) (h3 : e.depth ≤ 65) : OkAll (oddA ++ (e :: oddB) ++ oddC) := by
  intro x hx
  rcases List.mem_append.mp hx with hx | hx
  · rcases List.mem_append.mp hx with hx | hx
    · exact small2_ok (List.all_eq_true.mp oddA_ok x hx)
    · rcases List.mem_cons.mp hx with rfl | hx
      · exact ⟨h1, h2, h3⟩
      · exact small2_ok (List.all_eq_true.mp oddB_ok x hx)
  · exact small2_ok (List.all_eq_true.mp oddC_ok x hx)
def early : AV → Bool
  | .int i => decide (i < 11)
  | _ => false
theorem early_cnt : (upto (58 : Int).toNat).countP early = 11 := by decide +kernel
def lastD (dt dr dh : PyData) : List PyData := [dt, dr, dh, .tuple [dt, .list [.int 1]], .tuple [dt, .str "A"], .tuple [.int 1, dr], .tuple [dh, .tuple [.str "?", .int (-1)]], .tuple [dh, .tuple [.str "?", .int 5]]]
theorem pair_ok {a b : PyData} (h1 : Ab.fineD a = true) (h2 : Ab.fineD b = true) (h3 : a.weight + b.weight ≤ 29998) (h4 : max a.depth b.depth ≤ 64) : Ab.fineD (.tuple [a, b]) = true ∧ (PyData.tuple [a, b]).weight ≤ 30000 ∧ (PyData.tuple [a, b]).depth ≤ 65 := by
  refine ⟨?_, ?_, ?_⟩
  · simp only [Ab.fineD, finesD, h1, h2, Bool.and_true]
  · simp only [PyData.weight, PyData.weightAll]; omega
  · simp only [PyData.depth, PyData.depthAll]; omega
theorem lastD_ok {dt dr dh : PyData} (ft : Ab.fineD dt = true) (fr : Ab.fineD dr = true) (fh : Ab.fineD dh = true) (wt : dt.weight ≤ 20480) (det : dt.depth ≤ 11) (wr : dr.weight ≤ 8200) (der : dr.depth ≤ 59) (wh : dh.weight ≤ 120) (deh : dh.depth ≤ 59) : OkAll (lastD dt dr dh) := by
  have o1 := small2_ok (e := .list [.int 1]) (by decide +kernel)
  have c1 : (PyData.list [.int 1]).weight ≤ 5 ∧ (PyData.list [.int 1]).depth ≤ 2 := by decide +kernel
  have c2 : Ab.fineD (.str "A") = true ∧ (PyData.str "A").weight ≤ 5 ∧ (PyData.str "A").depth ≤ 2 := by decide +kernel
  have c3 : Ab.fineD (.int 1) = true ∧ (PyData.int 1).weight ≤ 5 ∧ (PyData.int 1).depth ≤ 2 := by decide +kernel
  have c4 : Ab.fineD (.tuple [.str "?", .int (-1)]) = true ∧ (PyData.tuple [.str "?", .int (-1)]).weight ≤ 5 ∧ (PyData.tuple [.str "?", .int (-1)]).depth ≤ 2 := by decide +kernel
  have c5 : Ab.fineD (.tuple [.str "?", .int 5]) = true ∧ (PyData.tuple [.str "?", .int 5]).weight ≤ 9 ∧ (PyData.tuple [.str "?", .int 5]).depth ≤ 2 := by decide +kernel
  intro e he
  simp only [lastD, List.mem_cons, List.not_mem_nil, or_false] at he
  rcases he with rfl | rfl | rfl | rfl | rfl | rfl | rfl | rfl
  · exact ⟨ft, by omega, by omega⟩
  · exact ⟨fr, by omega, by omega⟩
  · exact ⟨fh, by omega, by omega⟩
  · exact pair_ok ft o1.1 (by omega) (by omega)
  · exact pair_ok ft c2.1 (by omega) (by omega)
  · exact pair_ok c3.1 fr (by omega) (by omega)
  · exact pair_ok fh c4.1 (by omega) (by omega)
  · exact pair_ok fh c5.1 (by omega) (by omega)
theorem r_law : Reads K n_law (t_law K spAny (spBent 40) spDeck spDraw spNames spRightD spIsTerm spWordD) spEnd := by
  intro H xs m q h g
  unfold spEnd at h
  split at h
  · rename_i ns
    obtain ⟨w, k⟩ := h
    refine ⟨_, g, ?_⟩
    rw [show startA n_law [.scr ns] = [some (.scr ns), none, none, none, none, none, none, none, none, none, none, none, none, none] from rfl]
    unfold t_law
    refine seq_i ?_
    simp only [aNext, aAsg, aName, aVar, slot, put, aC, aOp, aUn, aTest, aChain, aAnd, aOr, aNot, aAndV, aOrV, aNotV, aIf, aNil, aCons, aTup, aLst, aCB, aBM, aSl, aPart, aNoPart, aDrop, aRet, aIfS, aPar, aAug, aSub, aUnp, aGNil, aGCons, aCall, aYes, aNilEq, aJoin, wRange1, wAny, wStr, wEnum, wEnumD, wKeys, wVals, wItems, lkAt, aLc, aDc, aDc2, aDNew, aRev, aSetd, aGet1, aGet2, isD, dAt, Ab.keyOf, wipeA, List.set_cons_zero, List.set_cons_succ, asStrs_map, bSub, bAdd, bIAdd, bNeg, bIx, bSl, bInt, bSet, bPop, bInsert, bAppend, bExtend, bML, bIsB, one, bLen, bList, bTuple, bSum, bToInt, bDict, bSorted, bMax, bAny, bAll, asBls_map, bMulL, aDispF, aSortSet, aListVals, aCallK, tyA, at0, at1, at2, at3, ixL0, ixL1, ixL2, set0, set1, set2, updA_same, updA_twice, List.append_nil, List.cons_append, List.nil_append, id_eq, spDeck]
    refine ⟨w, fun d c hd hc ne => .keep ?_⟩
    have w1 := own_deck w hd hc ne
    have d1 : updA (updA m c (.hid d)) d (.deck c) d = some (.deck c) := updA_same
    generalize updA (updA m c (.hid d)) d (.deck c) = m1 at w1 d1 ⊢
    refine seq_i ?_
    simp only [aNext, aAsg, aName, aVar, slot, put, aC, aOp, aUn, aTest, aChain, aAnd, aOr, aNot, aAndV, aOrV, aNotV, aIf, aNil, aCons, aTup, aLst, aCB, aBM, aSl, aPart, aNoPart, aDrop, aRet, aIfS, aPar, aAug, aSub, aUnp, aGNil, aGCons, aCall, aYes, aNilEq, aJoin, wRange1, wAny, wStr, wEnum, wEnumD, wKeys, wVals, wItems, lkAt, aLc, aDc, aDc2, aDNew, aRev, aSetd, aGet1, aGet2, isD, dAt, Ab.keyOf, wipeA, List.set_cons_zero, List.set_cons_succ, asStrs_map, bSub, bAdd, bIAdd, bNeg, bIx, bSl, bInt, bSet, bPop, bInsert, bAppend, bExtend, bML, bIsB, one, bLen, bList, bTuple, bSum, bToInt, bDict, bSorted, bMax, bAny, bAll, asBls_map, bMulL, aDispF, aSortSet, aListVals, aCallK, tyA, at0, at1, at2, at3, ixL0, ixL1, ixL2, set0, set1, set2, updA_same, updA_twice, List.append_nil, List.cons_append, List.nil_append, id_eq, spNames]
    refine ⟨w1, ⟨c, d1⟩, by decide, by decide, fun W hl oW ws hws => .keep ?_⟩
    have w2 : Own (updA m1 ws (.lst (W.map .str))) := w1.free hws (fun c e => by cases e)
    have d2 : updA m1 ws (.lst (W.map .str)) d = some (.deck c) := updA_keep hws d1
    have s2 : updA m1 ws (.lst (W.map .str)) ws = some (.lst (W.map .str)) := updA_same
    generalize updA m1 ws (.lst (W.map .str)) = M0 at w2 d2 s2 ⊢
    have hl : W.length = 4 := by omega
    have hne : W ≠ [] := by
      rintro rfl
      cases hl
    have word : ∀ i : Int, 0 ≤ i → i < 4 → ∃ v, atI (W.map AV.str) i = some (.str v) ∧ Word v := fun i i0 i1 => by
      obtain ⟨z0, ez0, hz0⟩ := at_lt (xs := W.map AV.str) i0 (by rw [List.length_map, hl]; exact i1)
      obtain ⟨v0, hv0, rfl⟩ := List.mem_map.mp hz0
      exact ⟨v0, ez0, oW v0 hv0⟩
    refine seq_i ?_
    simp only [aNext, aAsg, aName, aVar, slot, put, aC, aOp, aUn, aTest, aChain, aAnd, aOr, aNot, aAndV, aOrV, aNotV, aIf, aNil, aCons, aTup, aLst, aCB, aBM, aSl, aPart, aNoPart, aDrop, aRet, aIfS, aPar, aAug, aSub, aUnp, aGNil, aGCons, aCall, aYes, aNilEq, aJoin, wRange1, wAny, wStr, wEnum, wEnumD, wKeys, wVals, wItems, lkAt, aLc, aDc, aDc2, aDNew, aRev, aSetd, aGet1, aGet2, isD, dAt, Ab.keyOf, wipeA, List.set_cons_zero, List.set_cons_succ, asStrs_map, bSub, bAdd, bIAdd, bNeg, bIx, bSl, bInt, bSet, bPop, bInsert, bAppend, bExtend, bML, bIsB, one, bLen, bList, bTuple, bSum, bToInt, bDict, bSorted, bMax, bAny, bAll, asBls_map, bMulL, aDispF, aSortSet, aListVals, aCallK, tyA, at0, at1, at2, at3, ixL0, ixL1, ixL2, set0, set1, set2, updA_same, updA_twice, List.append_nil, List.cons_append, List.nil_append, id_eq, spDraw]
    refine ⟨sz (by simp), fun p1 h1 => ⟨sz (by simp), fun p2 h2 => ⟨sz (by simp), fun p3 h3 => ⟨sz (by simp), fun p5 h5 => ⟨⟨c, updA_keep h5 (updA_keep h3 (updA_keep h2 (updA_keep h1 d2)))⟩, by decide, by decide, fun r r0 r1 => ?_⟩⟩⟩⟩⟩
    have w5 := (((w2.free h1 (nol [.int 0, .int 1, .int 2, .int 5])).free h2 (nol [.int 0, .int 10, .int 99, .int 999])).free h3 (nol [])).free h5 (nol [.ref p1, .ref p2, .ref p3])
    have sub5 := (((Sub.refl.new h1 (o := .lst [.int 0, .int 1, .int 2, .int 5])).alloc h2 (o := .lst [.int 0, .int 10, .int 99, .int 999])).alloc h3 (o := .lst [])).alloc h5 (o := .lst [.ref p1, .ref p2, .ref p3])
    have pick : ∃ (us : Addr) (U : List Int), atI [AV.ref p1, AV.ref p2, AV.ref p3] r = some (.ref us) ∧ updA (updA (updA (updA M0 p1 (.lst [.int 0, .int 1, .int 2, .int 5])) p2 (.lst [.int 0, .int 10, .int 99, .int 999])) p3 (.lst [])) p5 (.lst [.ref p1, .ref p2, .ref p3]) us = some (.lst (U.map .int)) ∧ U.length < 1000 ∧ ∀ n ∈ U, 0 ≤ n ∧ n < 1000 := by
      have : r = 0 ∨ r = 1 ∨ r = 2 := by omega
      rcases this with rfl | rfl | rfl
      · exact ⟨p1, [0, 1, 2, 5], at0, updA_keep h5 (updA_keep h3 (updA_keep h2 updA_same)), by decide, by decide⟩
      · exact ⟨p2, [0, 10, 99, 999], at1, updA_keep h5 (updA_keep h3 updA_same), by decide, by decide⟩
      · exact ⟨p3, [], at2, updA_keep h5 updA_same, by decide, by decide⟩
    obtain ⟨us, U, e, u5, ul, ub⟩ := pick
    simp only [e]
    have d5 := sub5 _ _ d2
    have s5 := sub5 _ _ s2
    clear h1 h2 h3 h5 e
    generalize updA (updA (updA (updA M0 p1 _) p2 _) p3 _) p5 _ = M at w5 sub5 u5 d5 s5 ⊢
    clear sub5 w2 d2 s2
    refine .keep ?_
    refine seq_i ?_
    simp only [aNext, aAsg, aName, aVar, slot, put, aC, aOp, aUn, aTest, aChain, aAnd, aOr, aNot, aAndV, aOrV, aNotV, aIf, aNil, aCons, aTup, aLst, aCB, aBM, aSl, aPart, aNoPart, aDrop, aRet, aIfS, aPar, aAug, aSub, aUnp, aGNil, aGCons, aCall, aYes, aNilEq, aJoin, wRange1, wAny, wStr, wEnum, wEnumD, wKeys, wVals, wItems, lkAt, aLc, aDc, aDc2, aDNew, aRev, aSetd, aGet1, aGet2, isD, dAt, Ab.keyOf, wipeA, List.set_cons_zero, List.set_cons_succ, asStrs_map, bSub, bAdd, bIAdd, bNeg, bIx, bSl, bInt, bSet, bPop, bInsert, bAppend, bExtend, bML, bIsB, one, bLen, bList, bTuple, bSum, bToInt, bDict, bSorted, bMax, bAny, bAll, asBls_map, bMulL, aDispF, aSortSet, aListVals, aCallK, tyA, at0, at1, at2, at3, ixL0, ixL1, ixL2, set0, set1, set2, updA_same, updA_twice, List.append_nil, List.cons_append, List.nil_append, id_eq]
    refine .keep ?_
    refine seq_i ?_
    simp only [aFor, aNext, aAsg, aName, aVar, slot, put, aC, aOp, aUn, aTest, aChain, aAnd, aOr, aNot, aAndV, aOrV, aNotV, aIf, aNil, aCons, aTup, aLst, aCB, aBM, aSl, aPart, aNoPart, aDrop, aRet, aIfS, aPar, aAug, aSub, aUnp, aGNil, aGCons, aCall, aYes, aNilEq, aJoin, wRange1, wAny, wStr, wEnum, wEnumD, wKeys, wVals, wItems, lkAt, aLc, aDc, aDc2, aDNew, aRev, aSetd, aGet1, aGet2, isD, dAt, Ab.keyOf, wipeA, List.set_cons_zero, List.set_cons_succ, asStrs_map, bSub, bAdd, bIAdd, bNeg, bIx, bSl, bInt, bSet, bPop, bInsert, bAppend, bExtend, bML, bIsB, one, bLen, bList, bTuple, bSum, bToInt, bDict, bSorted, bMax, bAny, bAll, asBls_map, bMulL, aDispF, aSortSet, aListVals, aCallK, tyA, at0, at1, at2, at3, ixL0, ixL1, ixL2, set0, set1, set2, updA_same, updA_twice, List.append_nil, List.cons_append, List.nil_append, id_eq]
    refine ⟨by decide, by decide, ?_⟩
    refine for_inv (fun xs' a' m' => ∃ x4 x5 e, a' = [some (.scr ns), some (.ref d), some (.ref ws), some (.ref us), some x4, x5, none, none, none, none, none, none, none, none] ∧ Ab.Sub M m' ∧ Own m' ∧ OdAt m' e x4 ∧ Ab.fineD e = true ∧ e.weight + 4 * xs'.length ≤ 280 ∧ max e.depth 1 + xs'.length ≤ 56 ∧ ∀ y ∈ xs', ∃ i : Nat, y = .int i) ?_ ?_ _ _ _ ⟨_, _, .int 5, rfl, Sub.refl, w5, .int 5, by decide +kernel, by decide +kernel, by decide +kernel, fun y hy => ?_⟩
    · rintro x rr _ m2 ⟨x4, x5, e, rfl, sub, ow, oe, fe, we, de, hi⟩
      obtain ⟨i, rfl⟩ := hi x List.mem_cons_self
      refine ⟨trivial, fun nx hnx => ?_⟩
      simp only [aNext, aAsg, aName, aVar, slot, put, aC, aOp, aUn, aTest, aChain, aAnd, aOr, aNot, aAndV, aOrV, aNotV, aIf, aNil, aCons, aTup, aLst, aCB, aBM, aSl, aPart, aNoPart, aDrop, aRet, aIfS, aPar, aAug, aSub, aUnp, aGNil, aGCons, aCall, aYes, aNilEq, aJoin, wRange1, wAny, wStr, wEnum, wEnumD, wKeys, wVals, wItems, lkAt, aLc, aDc, aDc2, aDNew, aRev, aSetd, aGet1, aGet2, isD, dAt, Ab.keyOf, wipeA, List.set_cons_zero, List.set_cons_succ, asStrs_map, bSub, bAdd, bIAdd, bNeg, bIx, bSl, bInt, bSet, bPop, bInsert, bAppend, bExtend, bML, bIsB, one, bLen, bList, bTuple, bSum, bToInt, bDict, bSorted, bMax, bAny, bAll, asBls_map, bMulL, aDispF, aSortSet, aListVals, aCallK, tyA, at0, at1, at2, at3, ixL0, ixL1, ixL2, set0, set1, set2, updA_same, updA_twice, List.append_nil, List.cons_append, List.nil_append, id_eq]
      refine ⟨sz (by simp), sz (by simp), sz (by simp), fun p hp => ⟨sz (by simp), sz (by simp), fun p1 hp1 => ⟨by decide, ?_⟩⟩⟩
      have w' := (ow.free hp (nol [x4])).free hp1 (nol [.tup [x4, .tup []], .ref p, .tup [.int 1, x4]])
      have s' := (Sub.refl.new hp (o := .lst [x4])).alloc hp1 (o := .lst [.tup [x4, .tup []], .ref p, .tup [.int 1, x4]])
      have a' := updA_keep (o := .lst [.tup [x4, .tup []], .ref p, .tup [.int 1, x4]]) hp1 (updA_same (m := m2) (a := p) (o := .lst [x4]))
      have oe' := oe.mono s'
      have hi' : ∀ y ∈ rr, ∃ i : Nat, y = .int i := fun y hy => hi y (List.mem_cons_of_mem _ hy)
      rw [List.length_cons] at we de
      have f1 : Ab.fineD (.int 1) = true := by decide +kernel
      have v1 : (PyData.int 1).weight = 1 := by decide +kernel
      have : (i : Int) % 3 = 0 ∨ (i : Int) % 3 = 1 ∨ (i : Int) % 3 = 2 := by omega
      rcases this with h | h | h
      · rw [h]
        simp only [at0]
        refine hnx _ _ (.keep ⟨_, _, .tuple [e, .tuple []], rfl, sub.trans s', w', .tup (.cons oe' (.cons (.tup .nil) .nil)), by simp only [Ab.fineD, finesD, fe, Bool.and_true], ?_, ?_, hi'⟩)
        · simp only [PyData.weight, PyData.weightAll]; omega
        · simp only [PyData.depth, PyData.depthAll]; omega
      · rw [h]
        simp only [at1]
        refine hnx _ _ (.keep ⟨_, _, .list [e], rfl, sub.trans s', w', .lst a' (.cons oe' .nil), by simp only [Ab.fineD, finesD, fe, Bool.and_true], ?_, ?_, hi'⟩)
        · simp only [PyData.weight, PyData.weightAll]; omega
        · simp only [PyData.depth, PyData.depthAll]; omega
      · rw [h]
        simp only [at2]
        refine hnx _ _ (.keep ⟨_, _, .tuple [.int 1, e], rfl, sub.trans s', w', .tup (.cons (.int 1) (.cons oe' .nil)), by simp only [Ab.fineD, finesD, fe, Bool.and_true]; exact f1, ?_, ?_, hi'⟩)
        · simp only [PyData.weight, PyData.weightAll] at v1 ⊢; omega
        · simp only [PyData.depth, PyData.depthAll]; omega
    · rintro _ m2 ⟨x4, x5, e, rfl, sub, ow, oe, fe, we, de, -⟩
      refine ⟨trivial, .keep ?_⟩
      refine seq_i ?_
      have p39 : CPow 10 39 := ⟨by decide, by decide, by decide⟩
      have e39 : (10 : Int) ^ (39 : Int).toNat = 1000000000000000000000000000000000000000 := by decide
      simp only [aNext, aAsg, aName, aVar, slot, put, aC, aOp, aUn, aTest, aChain, aAnd, aOr, aNot, aAndV, aOrV, aNotV, aIf, aNil, aCons, aTup, aLst, aCB, aBM, aSl, aPart, aNoPart, aDrop, aRet, aIfS, aPar, aAug, aSub, aUnp, aGNil, aGCons, aCall, aYes, aNilEq, aJoin, wRange1, wAny, wStr, wEnum, wEnumD, wKeys, wVals, wItems, lkAt, aLc, aDc, aDc2, aDNew, aRev, aSetd, aGet1, aGet2, isD, dAt, Ab.keyOf, wipeA, List.set_cons_zero, List.set_cons_succ, asStrs_map, bSub, bAdd, bIAdd, bNeg, bIx, bSl, bInt, bSet, bPop, bInsert, bAppend, bExtend, bML, bIsB, one, bLen, bList, bTuple, bSum, bToInt, bDict, bSorted, bMax, bAny, bAll, asBls_map, bMulL, aDispF, aSortSet, aListVals, aCallK, tyA, at0, at1, at2, at3, ixL0, ixL1, ixL2, set0, set1, set2, updA_same, updA_twice, List.append_nil, List.cons_append, List.nil_append, id_eq, e39]
      refine ⟨p39, sz (by simp), sz (by simp), fun p hp p1 hp1 => ⟨sz (by simp), fun p2 hp2 => .keep ?_⟩⟩
      generalize eL : [AV.non, .bl true, .bl false, .int 0, .int (-1), .int 1000000000000000000000000000000000000000, .str "", .str "a", .str "A", .str "abcdefgh", .str "abcdefghi", .str "a1", .str " ", .str "?", .tup [], .ref p, .ref p1] = L1 at hp2 ⊢
      have w1 := ((ow.free hp (nol [])).free hp1 (o := .dK []) (fun _ e => by cases e)).free hp2 (nol L1)
      have s1 := ((Sub.refl.new hp (o := .lst [])).alloc hp1 (o := .dK [])).alloc hp2 (o := .lst L1)
      have a1 := updA_keep (o := .lst L1) hp2 (updA_keep (o := .dK []) hp1 (updA_same (m := m2) (a := p) (o := .lst [])))
      have b1 := updA_keep (o := .lst L1) hp2 (updA_same (m := updA m2 p (.lst [])) (a := p1) (o := .dK []))
      have c1 := updA_same (m := updA (updA m2 p (.lst [])) p1 (.dK [])) (a := p2) (o := .lst L1)
      clear hp hp1 hp2
      generalize updA (updA (updA m2 p (.lst [])) p1 (.dK [])) p2 (.lst L1) = m3 at w1 s1 a1 b1 c1 ⊢
      have o1 : OdsAt m3 oddA L1 := by
        have oa : OdAt m3 (.list []) (.ref p) := .lst a1 .nil
        have ob : OdAt m3 (.dict []) (.ref p1) := .dic b1 .nil
        rw [← eL]
        unfold oddA
        repeat' first | assumption | exact OdsAt.nil | refine OdsAt.cons ?_ ?_ | exact OdAt.non | exact OdAt.bl _ | exact OdAt.int _ | exact OdAt.str _ | refine OdAt.tup ?_
      have l1 := o1.length
      have l17 : oddA.length = 17 := rfl
      have oe := oe.mono s1
      have sub := sub.trans s1
      clear eL a1 b1 s1 ow
      refine seq_i ?_
      simp only [aNext, aAsg, aName, aVar, slot, put, aC, aOp, aUn, aTest, aChain, aAnd, aOr, aNot, aAndV, aOrV, aNotV, aIf, aNil, aCons, aTup, aLst, aCB, aBM, aSl, aPart, aNoPart, aDrop, aRet, aIfS, aPar, aAug, aSub, aUnp, aGNil, aGCons, aCall, aYes, aNilEq, aJoin, wRange1, wAny, wStr, wEnum, wEnumD, wKeys, wVals, wItems, lkAt, aLc, aDc, aDc2, aDNew, aRev, aSetd, aGet1, aGet2, isD, dAt, Ab.keyOf, wipeA, List.set_cons_zero, List.set_cons_succ, asStrs_map, bSub, bAdd, bIAdd, bNeg, bIx, bSl, bInt, bSet, bPop, bInsert, bAppend, bExtend, bML, bIsB, one, bLen, bList, bTuple, bSum, bToInt, bDict, bSorted, bMax, bAny, bAll, asBls_map, bMulL, aDispF, aSortSet, aListVals, aCallK, tyA, at0, at1, at2, at3, ixL0, ixL1, ixL2, set0, set1, set2, updA_same, updA_twice, List.append_nil, List.cons_append, List.nil_append, id_eq]
      refine ⟨sz (by simp), sz (by simp), sz (by simp), sz (by simp), sz (by simp), sz (by simp), sz (by simp), fun p hp => ⟨trivial, ?_⟩⟩
      generalize eL : [x4, .tup [.int 1, .int 2], .tup [.int 1, .int 2, .int 3], .tup [.str "?", .int 0], .tup [.str "?", .int (-1)], .tup [.str "?", .bl false], .tup [.str "?", .str "a"], .tup [.str "a", .str "?"], AV.ref p] = L9
      refine ⟨sz (by rw [← eL]; simp), fun p1 hp1 => ?_⟩
      have w3 := (w1.free hp (o := .dK [(Sum.inl 1, .int 2)]) (fun _ e => by cases e)).free hp1 (nol L9)
      have s3 := (Sub.refl.new hp (o := .dK [(Sum.inl 1, .int 2)])).alloc hp1 (o := .lst L9)
      have a3 := updA_keep (o := .lst L9) hp1 (updA_same (m := m3) (a := p) (o := .dK [(Sum.inl 1, .int 2)]))
      have c3 := s3 _ _ c1
      generalize updA (updA m3 p (.dK [(Sum.inl 1, .int 2)])) p1 (.lst L9) = m4 at w3 s3 a3 c3 ⊢
      rw [c3]
      have oe := oe.mono s3
      have sub := sub.trans s3
      have o2 : OdsAt m4 (e :: oddB) L9 := by
        have oa : OdAt m4 (.dict [(.int 1, .int 2)]) (.ref p) := .dic a3 (.cons (k := .inl 1) (.int 2) .nil)
        rw [← eL]
        unfold oddB
        repeat' first | assumption | exact OdsAt.nil | refine OdsAt.cons ?_ ?_ | exact OdAt.non | exact OdAt.bl _ | exact OdAt.int _ | exact OdAt.str _ | refine OdAt.tup ?_
      have l2 := o2.length
      have l9 : (e :: oddB).length = 9 := rfl
      have o3 := (o1.mono s3).app o2
      refine ⟨sz (by omega), fun ol hol => .keep ?_⟩
      have l3 : (L1 ++ L9).length = 26 := by rw [List.length_append]; omega
      generalize L1 ++ L9 = L26 at o3 l3 ⊢
      clear eL a3 c3 o1 o2 c1 s3 hp hp1
      refine seq_i ?_
      simp only [aNext, aAsg, aName, aVar, slot, put, aC, aOp, aUn, aTest, aChain, aAnd, aOr, aNot, aAndV, aOrV, aNotV, aIf, aNil, aCons, aTup, aLst, aCB, aBM, aSl, aPart, aNoPart, aDrop, aRet, aIfS, aPar, aAug, aSub, aUnp, aGNil, aGCons, aCall, aYes, aNilEq, aJoin, wRange1, wAny, wStr, wEnum, wEnumD, wKeys, wVals, wItems, lkAt, aLc, aDc, aDc2, aDNew, aRev, aSetd, aGet1, aGet2, isD, dAt, Ab.keyOf, wipeA, List.set_cons_zero, List.set_cons_succ, asStrs_map, bSub, bAdd, bIAdd, bNeg, bIx, bSl, bInt, bSet, bPop, bInsert, bAppend, bExtend, bML, bIsB, one, bLen, bList, bTuple, bSum, bToInt, bDict, bSorted, bMax, bAny, bAll, asBls_map, bMulL, aDispF, aSortSet, aListVals, aCallK, tyA, at0, at1, at2, at3, ixL0, ixL1, ixL2, set0, set1, set2, updA_same, updA_twice, List.append_nil, List.cons_append, List.nil_append, id_eq, l3]
      refine ⟨⟨_, _, rfl, updA_same⟩, sz (by simp), sz (by simp), sz (by simp), sz (by omega), .keep ?_⟩
      have o4 : OdsAt m4 (oddA ++ (e :: oddB) ++ oddC) (L26 ++ [.tup [.tup [.str "?", .int 1], .tup [.str "?"]]]) := by
        refine o3.app ?_
        unfold oddC
        repeat' first | assumption | exact OdsAt.nil | refine OdsAt.cons ?_ ?_ | exact OdAt.non | exact OdAt.bl _ | exact OdAt.int _ | exact OdAt.str _ | refine OdAt.tup ?_
      have okO := odd_ok fe (show e.weight ≤ 30000 by omega) (show e.depth ≤ 65 by simp only [List.length_nil] at de; omega)
      have l4 : (L26 ++ [AV.tup [.tup [.str "?", .int 1], .tup [.str "?"]]]).length = 27 := by rw [List.length_append, l3]; rfl
      generalize oddA ++ (e :: oddB) ++ oddC = D27 at o4 okO
      generalize L26 ++ [AV.tup [.tup [.str "?", .int 1], .tup [.str "?"]]] = L27 at o4 l4 ⊢
      have w4 := w3.free hol (nol L27)
      have s4 := Sub.refl.new hol (o := .lst L27)
      have e4 := updA_same (m := m4) (a := ol) (o := .lst L27)
      have sub := sub.trans s4
      have o4 := o4.mono s4
      generalize updA m4 ol (.lst L27) = m5 at w4 s4 e4 sub o4 ⊢
      clear s4 hol w3 o3 l3 oe fe we de w1
      have d6 := sub _ _ d5
      have s6 := sub _ _ s5
      have u6 := sub _ _ u5
      clear sub d5 s5 u5
      refine seq_i ?_
      simp only [aFor, aNext, aAsg, aName, aVar, slot, put, aC, aOp, aUn, aTest, aChain, aAnd, aOr, aNot, aAndV, aOrV, aNotV, aIf, aNil, aCons, aTup, aLst, aCB, aBM, aSl, aPart, aNoPart, aDrop, aRet, aIfS, aPar, aAug, aSub, aUnp, aGNil, aGCons, aCall, aYes, aNilEq, aJoin, wRange1, wAny, wStr, wEnum, wEnumD, wKeys, wVals, wItems, lkAt, aLc, aDc, aDc2, aDNew, aRev, aSetd, aGet1, aGet2, isD, dAt, Ab.keyOf, wipeA, List.set_cons_zero, List.set_cons_succ, asStrs_map, bSub, bAdd, bIAdd, bNeg, bIx, bSl, bInt, bSet, bPop, bInsert, bAppend, bExtend, bML, bIsB, one, bLen, bList, bTuple, bSum, bToInt, bDict, bSorted, bMax, bAny, bAll, asBls_map, bMulL, aDispF, aSortSet, aListVals, aCallK, tyA, at0, at1, at2, at3, ixL0, ixL1, ixL2, set0, set1, set2, updA_same, updA_twice, List.append_nil, List.cons_append, List.nil_append, id_eq]
      refine ⟨by decide, by decide, ?_⟩
      refine for_inv (fun xs' a' m' => ∃ x5 x7 x8 x9 x10, a' = [some (.scr ns), some (.ref d), some (.ref ws), some (.ref us), some x4, x5, some (.ref ol), x7, x8, x9, x10, none, none, none] ∧ Ab.Sub m5 m' ∧ Own m' ∧ ∀ y ∈ xs', ∃ i : Nat, y = .int i) ?_ ?_ _ _ _ ⟨_, _, _, _, _, rfl, Sub.refl, w4, fun y hy => ?_⟩
      · rintro x rr _ m6 ⟨x5, x7, x8, x9, x10, rfl, sub, ow, hi⟩
        obtain ⟨i, rfl⟩ := hi x List.mem_cons_self
        refine ⟨trivial, fun nx hnx => ?_⟩
        simp only [aName, put]
        refine seq_i ?_
        simp only [aNext, aAsg, aName, aVar, slot, put, aC, aOp, aUn, aTest, aChain, aAnd, aOr, aNot, aAndV, aOrV, aNotV, aIf, aNil, aCons, aTup, aLst, aCB, aBM, aSl, aPart, aNoPart, aDrop, aRet, aIfS, aPar, aAug, aSub, aUnp, aGNil, aGCons, aCall, aYes, aNilEq, aJoin, wRange1, wAny, wStr, wEnum, wEnumD, wKeys, wVals, wItems, lkAt, aLc, aDc, aDc2, aDNew, aRev, aSetd, aGet1, aGet2, isD, dAt, Ab.keyOf, wipeA, List.set_cons_zero, List.set_cons_succ, asStrs_map, bSub, bAdd, bIAdd, bNeg, bIx, bSl, bInt, bSet, bPop, bInsert, bAppend, bExtend, bML, bIsB, one, bLen, bList, bTuple, bSum, bToInt, bDict, bSorted, bMax, bAny, bAll, asBls_map, bMulL, aDispF, aSortSet, aListVals, aCallK, tyA, at0, at1, at2, at3, ixL0, ixL1, ixL2, set0, set1, set2, updA_same, updA_twice, List.append_nil, List.cons_append, List.nil_append, id_eq, spAny]
        refine ⟨ow, ⟨c, sub _ _ d6⟩, W, U, ⟨sub _ _ s6, sub _ _ u6, hne, oW, by omega, ul⟩, fun t ot dt pt => .keep ?_⟩
        refine seq_i ?_
        have sW := sub _ _ s6
        obtain ⟨v0, ev0, ov0⟩ := word ((i : Int) % 4) (Int.emod_nonneg _ (by decide)) (Int.emod_lt_of_pos _ (by decide))
        simp only [aNext, aAsg, aName, aVar, slot, put, aC, aOp, aUn, aTest, aChain, aAnd, aOr, aNot, aAndV, aOrV, aNotV, aIf, aNil, aCons, aTup, aLst, aCB, aBM, aSl, aPart, aNoPart, aDrop, aRet, aIfS, aPar, aAug, aSub, aUnp, aGNil, aGCons, aCall, aYes, aNilEq, aJoin, wRange1, wAny, wStr, wEnum, wEnumD, wKeys, wVals, wItems, lkAt, aLc, aDc, aDc2, aDNew, aRev, aSetd, aGet1, aGet2, isD, dAt, Ab.keyOf, wipeA, List.set_cons_zero, List.set_cons_succ, asStrs_map, bSub, bAdd, bIAdd, bNeg, bIx, bSl, bInt, bSet, bPop, bInsert, bAppend, bExtend, bML, bIsB, one, bLen, bList, bTuple, bSum, bToInt, bDict, bSorted, bMax, bAny, bAll, asBls_map, bMulL, aDispF, aSortSet, aListVals, aCallK, tyA, at0, at1, at2, at3, ixL0, ixL1, ixL2, set0, set1, set2, updA_same, updA_twice, List.append_nil, List.cons_append, List.nil_append, id_eq, spIsTerm, spWordD, sW, ev0]
        have td : isTermD (toD t.av) = true := Trm.termD (A := Far) (U := (· ∈ U)) (fun n hn => (ub n hn).1) ot
        have uS : ∀ n ∈ U, Small n := fun n hn => Far.small ⟨by have := ub n hn; omega, by have := ub n hn; omega⟩
        have tf : Ab.fineD (toD t.av) = true := Trm.fineD (A := Far) (U := (· ∈ U)) (fun i h => h.small) uS ot
        have tw := Trm.weight_le (A := Far) (U := (· ∈ U)) (fun i h => h.small) uS ot
        have tz := Trm.size_pairs t
        have tp := Trm.depth_le t
        have od := fun m' : AHp => od_pure (m := m') t.av (Trm.pure t)
        refine ⟨ow, toD t.av, od _, by omega, ?_⟩
        rw [if_neg (by rw [td]; decide)]
        refine ⟨by decide, ow, .str v0, .str v0, by rw [str_size]; have := ov0.2.1; omega, ?_⟩
        rw [if_neg (by rw [show isWordD (.str v0) = true from (isWord_iff v0).mpr ov0]; decide)]
        refine .keep ?_
        refine seq_i ?_
        simp only [aFor, aNext, aAsg, aName, aVar, slot, put, aC, aOp, aUn, aTest, aChain, aAnd, aOr, aNot, aAndV, aOrV, aNotV, aIf, aNil, aCons, aTup, aLst, aCB, aBM, aSl, aPart, aNoPart, aDrop, aRet, aIfS, aPar, aAug, aSub, aUnp, aGNil, aGCons, aCall, aYes, aNilEq, aJoin, wRange1, wAny, wStr, wEnum, wEnumD, wKeys, wVals, wItems, lkAt, aLc, aDc, aDc2, aDNew, aRev, aSetd, aGet1, aGet2, isD, dAt, Ab.keyOf, wipeA, List.set_cons_zero, List.set_cons_succ, asStrs_map, bSub, bAdd, bIAdd, bNeg, bIx, bSl, bInt, bSet, bPop, bInsert, bAppend, bExtend, bML, bIsB, one, bLen, bList, bTuple, bSum, bToInt, bDict, bSorted, bMax, bAny, bAll, asBls_map, bMulL, aDispF, aSortSet, aListVals, aCallK, tyA, at0, at1, at2, at3, ixL0, ixL1, ixL2, set0, set1, set2, updA_same, updA_twice, List.append_nil, List.cons_append, List.nil_append, id_eq]
        refine ⟨by decide, by decide, ?_⟩
        refine for_inv (fun xs' a' m' => ∃ x8 x9 x10, a' = [some (.scr ns), some (.ref d), some (.ref ws), some (.ref us), some x4, some (.int i), some (.ref ol), some t.av, x8, x9, x10, none, none, none] ∧ Ab.Sub m5 m' ∧ Own m' ∧ ∀ y ∈ xs', ∃ i : Nat, y = .int i) ?_ ?_ _ _ _ ⟨_, _, _, rfl, sub, ow, fun y hy => ?_⟩
        · rintro x' rr' _ m7 ⟨y8, y9, y10, rfl, sub7, ow7, hj⟩
          obtain ⟨j, rfl⟩ := hj x' List.mem_cons_self
          refine ⟨trivial, fun nx2 hnx2 => ?_⟩
          simp only [aName, put]
          refine seq_i ?_
          simp only [aNext, aAsg, aName, aVar, slot, put, aC, aOp, aUn, aTest, aChain, aAnd, aOr, aNot, aAndV, aOrV, aNotV, aIf, aNil, aCons, aTup, aLst, aCB, aBM, aSl, aPart, aNoPart, aDrop, aRet, aIfS, aPar, aAug, aSub, aUnp, aGNil, aGCons, aCall, aYes, aNilEq, aJoin, wRange1, wAny, wStr, wEnum, wEnumD, wKeys, wVals, wItems, lkAt, aLc, aDc, aDc2, aDNew, aRev, aSetd, aGet1, aGet2, isD, dAt, Ab.keyOf, wipeA, List.set_cons_zero, List.set_cons_succ, asStrs_map, bSub, bAdd, bIAdd, bNeg, bIx, bSl, bInt, bSet, bPop, bInsert, bAppend, bExtend, bML, bIsB, one, bLen, bList, bTuple, bSum, bToInt, bDict, bSorted, bMax, bAny, bAll, asBls_map, bMulL, aDispF, aSortSet, aListVals, aCallK, tyA, at0, at1, at2, at3, ixL0, ixL1, ixL2, set0, set1, set2, updA_same, updA_twice, List.append_nil, List.cons_append, List.nil_append, id_eq, spDraw]
          refine ⟨⟨c, sub7 _ _ d6⟩, by decide, by decide, fun b b0 b1 => .keep ?_⟩
          refine seq_i ?_
          simp only [aNext, aAsg, aName, aVar, slot, put, aC, aOp, aUn, aTest, aChain, aAnd, aOr, aNot, aAndV, aOrV, aNotV, aIf, aNil, aCons, aTup, aLst, aCB, aBM, aSl, aPart, aNoPart, aDrop, aRet, aIfS, aPar, aAug, aSub, aUnp, aGNil, aGCons, aCall, aYes, aNilEq, aJoin, wRange1, wAny, wStr, wEnum, wEnumD, wKeys, wVals, wItems, lkAt, aLc, aDc, aDc2, aDNew, aRev, aSetd, aGet1, aGet2, isD, dAt, Ab.keyOf, wipeA, List.set_cons_zero, List.set_cons_succ, asStrs_map, bSub, bAdd, bIAdd, bNeg, bIx, bSl, bInt, bSet, bPop, bInsert, bAppend, bExtend, bML, bIsB, one, bLen, bList, bTuple, bSum, bToInt, bDict, bSorted, bMax, bAny, bAll, asBls_map, bMulL, aDispF, aSortSet, aListVals, aCallK, tyA, at0, at1, at2, at3, ixL0, ixL1, ixL2, set0, set1, set2, updA_same, updA_twice, List.append_nil, List.cons_append, List.nil_append, id_eq, spBent]
          refine ⟨ow7, ⟨c, sub7 _ _ d6⟩, toD t.av, od _, tf, by omega, by omega, fun y e8 m8 z1 z2 z3 z4 z5 z6 => .keep ?_⟩
          have sub8 := sub7.trans z1
          refine seq_join (fun a' m' => ∃ y e, a' = [some (.scr ns), some (.ref d), some (.ref ws), some (.ref us), some x4, some (.int i), some (.ref ol), some t.av, some (.int j), some (.int b), some y, none, none, none] ∧ Ab.Sub m5 m' ∧ Own m' ∧ OdAt m' e y ∧ Ab.fineD e = true ∧ e.weight ≤ 20000 ∧ e.depth ≤ 40) ?_ ?_
          · rintro _ m9 ⟨y, e9, rfl, sub9, ow9, oe9, fe9, we9, de9⟩
            have sW := sub9 _ _ s6
            obtain ⟨v1, ev1, ov1⟩ := word ((j : Int) % 4) (Int.emod_nonneg _ (by decide)) (Int.emod_lt_of_pos _ (by decide))
            simp only [aNext, aAsg, aName, aVar, slot, put, aC, aOp, aUn, aTest, aChain, aAnd, aOr, aNot, aAndV, aOrV, aNotV, aIf, aNil, aCons, aTup, aLst, aCB, aBM, aSl, aPart, aNoPart, aDrop, aRet, aIfS, aPar, aAug, aSub, aUnp, aGNil, aGCons, aCall, aYes, aNilEq, aJoin, wRange1, wAny, wStr, wEnum, wEnumD, wKeys, wVals, wItems, lkAt, aLc, aDc, aDc2, aDNew, aRev, aSetd, aGet1, aGet2, isD, dAt, Ab.keyOf, wipeA, List.set_cons_zero, List.set_cons_succ, asStrs_map, bSub, bAdd, bIAdd, bNeg, bIx, bSl, bInt, bSet, bPop, bInsert, bAppend, bExtend, bML, bIsB, one, bLen, bList, bTuple, bSum, bToInt, bDict, bSorted, bMax, bAny, bAll, asBls_map, bMulL, aDispF, aSortSet, aListVals, aCallK, tyA, at0, at1, at2, at3, ixL0, ixL1, ixL2, set0, set1, set2, updA_same, updA_twice, List.append_nil, List.cons_append, List.nil_append, id_eq, spRightD, sW, ev1]
            refine ⟨ow9, e9, oe9, ⟨fe9, by omega, by omega⟩, by omega, ?_⟩
            simp only [Bool.not_true, if_neg Bool.false_ne_true, spBent]
            have wv : (PyData.str v1).weight ≤ 8 := by rw [str_size]; exact ov1.2.1
            have dv : (PyData.str v1).depth = 0 := by simp only [PyData.depth]
            refine ⟨by decide, ow9, ⟨c, sub9 _ _ d6⟩, .str v1, .str v1, by simp only [Ab.fineD]; exact word_ascii ov1, by omega, by omega, fun y e m10 z1 z2 z3 z4 z5 z6 => ⟨z2, e, z3, ⟨z4, by omega, by omega⟩, by omega, ?_⟩⟩
            exact hnx2 _ _ (.keep ⟨_, _, _, rfl, sub9.trans z1, z2, fun y hy => hj y (List.mem_cons_of_mem _ hy)⟩)
          · intro n2 hn2
            simp only [aNext, aAsg, aName, aVar, slot, put, aC, aOp, aUn, aTest, aChain, aAnd, aOr, aNot, aAndV, aOrV, aNotV, aIf, aNil, aCons, aTup, aLst, aCB, aBM, aSl, aPart, aNoPart, aDrop, aRet, aIfS, aPar, aAug, aSub, aUnp, aGNil, aGCons, aCall, aYes, aNilEq, aJoin, wRange1, wAny, wStr, wEnum, wEnumD, wKeys, wVals, wItems, lkAt, aLc, aDc, aDc2, aDNew, aRev, aSetd, aGet1, aGet2, isD, dAt, Ab.keyOf, wipeA, List.set_cons_zero, List.set_cons_succ, asStrs_map, bSub, bAdd, bIAdd, bNeg, bIx, bSl, bInt, bSet, bPop, bInsert, bAppend, bExtend, bML, bIsB, one, bLen, bList, bTuple, bSum, bToInt, bDict, bSorted, bMax, bAny, bAll, asBls_map, bMulL, aDispF, aSortSet, aListVals, aCallK, tyA, at0, at1, at2, at3, ixL0, ixL1, ixL2, set0, set1, set2, updA_same, updA_twice, List.append_nil, List.cons_append, List.nil_append, id_eq, bq_int, id_eq, spBent]
            by_cases hb : b = 1
            · rw [decide_eq_true hb, if_pos rfl]
              exact ⟨z2, ⟨c, sub8 _ _ d6⟩, e8, z3, z4, by omega, by omega, fun y9 e9 m9 q1 q2 q3 q4 q5 q6 => hn2 _ _ (.keep ⟨y9, e9, rfl, sub8.trans q1, q2, q3, q4, by omega, by omega⟩)⟩
            · rw [decide_eq_false hb, if_neg Bool.false_ne_true]
              exact hn2 _ _ (.keep ⟨y, e8, rfl, sub8, z2, z3, z4, by omega, by omega⟩)
        · rintro _ m7 ⟨y8, y9, y10, rfl, sub7, ow7, -⟩
          refine ⟨trivial, .keep ?_⟩
          simp only [aNext, aAsg, aName, aVar, slot, put, aC, aOp, aUn, aTest, aChain, aAnd, aOr, aNot, aAndV, aOrV, aNotV, aIf, aNil, aCons, aTup, aLst, aCB, aBM, aSl, aPart, aNoPart, aDrop, aRet, aIfS, aPar, aAug, aSub, aUnp, aGNil, aGCons, aCall, aYes, aNilEq, aJoin, wRange1, wAny, wStr, wEnum, wEnumD, wKeys, wVals, wItems, lkAt, aLc, aDc, aDc2, aDNew, aRev, aSetd, aGet1, aGet2, isD, dAt, Ab.keyOf, wipeA, List.set_cons_zero, List.set_cons_succ, asStrs_map, bSub, bAdd, bIAdd, bNeg, bIx, bSl, bInt, bSet, bPop, bInsert, bAppend, bExtend, bML, bIsB, one, bLen, bList, bTuple, bSum, bToInt, bDict, bSorted, bMax, bAny, bAll, asBls_map, bMulL, aDispF, aSortSet, aListVals, aCallK, tyA, at0, at1, at2, at3, ixL0, ixL1, ixL2, set0, set1, set2, updA_same, updA_twice, List.append_nil, List.cons_append, List.nil_append, id_eq, spRightD]
          refine ⟨ow7, toD t.av, od _, ⟨tf, by omega, by omega⟩, by omega, ?_⟩
          simp only [Bool.not_true, if_neg Bool.false_ne_true]
          exact hnx _ _ (.keep ⟨_, _, _, _, _, rfl, sub7, ow7, fun y hy => hi y (List.mem_cons_of_mem _ hy)⟩)
        · obtain ⟨i, rfl, hi⟩ := upto_mem hy
          exact ⟨i, rfl⟩
      · rintro _ m6 ⟨x5, x7, x8, x9, x10, rfl, sub, ow, -⟩
        refine ⟨trivial, .keep ?_⟩
        refine seq_i ?_
        have sW := sub _ _ s6
        obtain ⟨v0, ev0, ov0⟩ := word 0 (by decide) (by decide)
        simp only [aNext, aAsg, aName, aVar, slot, put, aC, aOp, aUn, aTest, aChain, aAnd, aOr, aNot, aAndV, aOrV, aNotV, aIf, aNil, aCons, aTup, aLst, aCB, aBM, aSl, aPart, aNoPart, aDrop, aRet, aIfS, aPar, aAug, aSub, aUnp, aGNil, aGCons, aCall, aYes, aNilEq, aJoin, wRange1, wAny, wStr, wEnum, wEnumD, wKeys, wVals, wItems, lkAt, aLc, aDc, aDc2, aDNew, aRev, aSetd, aGet1, aGet2, isD, dAt, Ab.keyOf, wipeA, List.set_cons_zero, List.set_cons_succ, asStrs_map, bSub, bAdd, bIAdd, bNeg, bIx, bSl, bInt, bSet, bPop, bInsert, bAppend, bExtend, bML, bIsB, one, bLen, bList, bTuple, bSum, bToInt, bDict, bSorted, bMax, bAny, bAll, asBls_map, bMulL, aDispF, aSortSet, aListVals, aCallK, tyA, at0, at1, at2, at3, ixL0, ixL1, ixL2, set0, set1, set2, updA_same, updA_twice, List.append_nil, List.cons_append, List.nil_append, id_eq, aPar3, sW, ev0]
        refine ⟨sz (by simp), .keep ?_⟩
        refine seq_i ?_
        simp only [aFor, aNext, aAsg, aName, aVar, slot, put, aC, aOp, aUn, aTest, aChain, aAnd, aOr, aNot, aAndV, aOrV, aNotV, aIf, aNil, aCons, aTup, aLst, aCB, aBM, aSl, aPart, aNoPart, aDrop, aRet, aIfS, aPar, aAug, aSub, aUnp, aGNil, aGCons, aCall, aYes, aNilEq, aJoin, wRange1, wAny, wStr, wEnum, wEnumD, wKeys, wVals, wItems, lkAt, aLc, aDc, aDc2, aDNew, aRev, aSetd, aGet1, aGet2, isD, dAt, Ab.keyOf, wipeA, List.set_cons_zero, List.set_cons_succ, asStrs_map, bSub, bAdd, bIAdd, bNeg, bIx, bSl, bInt, bSet, bPop, bInsert, bAppend, bExtend, bML, bIsB, one, bLen, bList, bTuple, bSum, bToInt, bDict, bSorted, bMax, bAny, bAll, asBls_map, bMulL, aDispF, aSortSet, aListVals, aCallK, tyA, at0, at1, at2, at3, ixL0, ixL1, ixL2, set0, set1, set2, updA_same, updA_twice, List.append_nil, List.cons_append, List.nil_append, id_eq]
        refine ⟨by decide, by decide, ?_⟩
        refine for_inv (fun xs' a' m' => ∃ x5 tr ro he dt dr dh, a' = [some (.scr ns), some (.ref d), some (.ref ws), some (.ref us), some x4, x5, some (.ref ol), x7, x8, x9, x10, some tr, some ro, some he] ∧ m' = m6 ∧ OdAt m6 dt tr ∧ OdAt m6 dr ro ∧ OdAt m6 dh he ∧ Ab.fineD dt = true ∧ Ab.fineD dr = true ∧ Ab.fineD dh = true ∧
          (dt.weight + 2) * 2 ^ (xs'.countP early) ≤ 20480 ∧ dt.depth + xs'.countP early ≤ 11 ∧ dr.weight + 140 * xs'.length ≤ 8200 ∧ dr.depth + xs'.length ≤ 59 ∧ dh.weight + 2 * xs'.length ≤ 120 ∧ max dh.depth 1 + xs'.length ≤ 59 ∧ ∀ y ∈ xs', ∃ i : Nat, y = .int i ∧ i < 58) ?_ ?_ _ _ _ ⟨_, _, _, _, .str v0, .tuple [], .int 1, rfl, rfl, .str v0, .tup .nil, .int 1, by simp only [Ab.fineD]; exact word_ascii ov0, by decide +kernel, by decide +kernel, ?_, ?_, by decide +kernel, by decide +kernel, by decide +kernel, by decide +kernel, fun y hy => ?_⟩
        · rintro x rr _ m7 ⟨y5, tr, ro, he, dt, dr, dh, rfl, em, ot, orr, oh, ft, fr, fh, wt, det, wr, der, wh, deh, hi⟩
          subst m7
          obtain ⟨i, rfl, hi58⟩ := hi x List.mem_cons_self
          have hi' : ∀ y ∈ rr, ∃ i : Nat, y = .int i ∧ i < 58 := fun y hy => hi y (List.mem_cons_of_mem _ hy)
          refine ⟨trivial, fun nx hnx => ?_⟩
          simp only [aName, put]
          refine seq_i ?_
          simp only [aNext, aAsg, aName, aVar, slot, put, aC, aOp, aUn, aTest, aChain, aAnd, aOr, aNot, aAndV, aOrV, aNotV, aIf, aNil, aCons, aTup, aLst, aCB, aBM, aSl, aPart, aNoPart, aDrop, aRet, aIfS, aPar, aAug, aSub, aUnp, aGNil, aGCons, aCall, aYes, aNilEq, aJoin, wRange1, wAny, wStr, wEnum, wEnumD, wKeys, wVals, wItems, lkAt, aLc, aDc, aDc2, aDNew, aRev, aSetd, aGet1, aGet2, isD, dAt, Ab.keyOf, wipeA, List.set_cons_zero, List.set_cons_succ, asStrs_map, bSub, bAdd, bIAdd, bNeg, bIx, bSl, bInt, bSet, bPop, bInsert, bAppend, bExtend, bML, bIsB, one, bLen, bList, bTuple, bSum, bToInt, bDict, bSorted, bMax, bAny, bAll, asBls_map, bMulL, aDispF, aSortSet, aListVals, aCallK, tyA, at0, at1, at2, at3, ixL0, ixL1, ixL2, set0, set1, set2, updA_same, updA_twice, List.append_nil, List.cons_append, List.nil_append, id_eq]
          refine ⟨sz (by simp), sz (by simp), sz (by simp), .keep ?_⟩
          rw [List.length_cons] at wr der wh deh
          have si : Small (i : Int) := Far.small ⟨by omega, by omega⟩
          have wi := int_weight si
          have fi : Ab.fineD (.int i) = true := by simp only [Ab.fineD]; exact decide_eq_true si
          have or2 : OdAt m6 (.tuple [.int i, dr]) (.tup [.int i, ro]) := .tup (.cons (.int _) (.cons orr .nil))
          have oh2 : OdAt m6 (.tuple [dh, .tuple []]) (.tup [he, .tup []]) := .tup (.cons oh (.cons (.tup .nil) .nil))
          have fr2 : Ab.fineD (.tuple [.int i, dr]) = true := by
            simp only [Ab.fineD, finesD, fr, Bool.and_true] at fi ⊢
            exact fi
          have fh2 : Ab.fineD (.tuple [dh, .tuple []]) = true := by simp only [Ab.fineD, finesD, fh, Bool.and_true]
          have wr2 : (PyData.tuple [.int i, dr]).weight + 140 * rr.length ≤ 8200 := by
            have e : (PyData.tuple [.int i, dr]).weight = (PyData.int i).weight + 1 + (dr.weight + 1 + 0) := by simp only [PyData.weight, PyData.weightAll]
            omega
          have dr2 : (PyData.tuple [.int i, dr]).depth + rr.length ≤ 59 := by simp only [PyData.depth, PyData.depthAll]; omega
          have wh2 : (PyData.tuple [dh, .tuple []]).weight + 2 * rr.length ≤ 120 := by simp only [PyData.weight, PyData.weightAll]; omega
          have dh2 : max (PyData.tuple [dh, .tuple []]).depth 1 + rr.length ≤ 59 := by simp only [PyData.depth, PyData.depthAll]; omega
          by_cases h11 : (i : Int) < 11
          · have ee : early (.int i) = true := decide_eq_true h11
            rw [List.countP_cons_of_pos ee, Nat.pow_succ] at wt
            rw [List.countP_cons_of_pos ee] at det
            simp only [aNext, aAsg, aName, aVar, slot, put, aC, aOp, aUn, aTest, aChain, aAnd, aOr, aNot, aAndV, aOrV, aNotV, aIf, aNil, aCons, aTup, aLst, aCB, aBM, aSl, aPart, aNoPart, aDrop, aRet, aIfS, aPar, aAug, aSub, aUnp, aGNil, aGCons, aCall, aYes, aNilEq, aJoin, wRange1, wAny, wStr, wEnum, wEnumD, wKeys, wVals, wItems, lkAt, aLc, aDc, aDc2, aDNew, aRev, aSetd, aGet1, aGet2, isD, dAt, Ab.keyOf, wipeA, List.set_cons_zero, List.set_cons_succ, asStrs_map, bSub, bAdd, bIAdd, bNeg, bIx, bSl, bInt, bSet, bPop, bInsert, bAppend, bExtend, bML, bIsB, one, bLen, bList, bTuple, bSum, bToInt, bDict, bSorted, bMax, bAny, bAll, asBls_map, bMulL, aDispF, aSortSet, aListVals, aCallK, tyA, at0, at1, at2, at3, ixL0, ixL1, ixL2, set0, set1, set2, updA_same, updA_twice, List.append_nil, List.cons_append, List.nil_append, id_eq]
            refine ⟨trivial, ?_⟩
            rw [decide_eq_true h11, if_pos rfl]
            refine ⟨sz (by simp), ?_⟩
            refine hnx _ _ (.keep ⟨_, _, _, _, .tuple [dt, dt], _, _, rfl, rfl, .tup (.cons ot (.cons ot .nil)), or2, oh2, by simp only [Ab.fineD, finesD, ft, Bool.and_true], fr2, fh2, ?_, ?_, wr2, dr2, wh2, dh2, hi'⟩)
            · have e : (PyData.tuple [dt, dt]).weight + 2 = (dt.weight + 2) * 2 := by simp only [PyData.weight, PyData.weightAll]; omega
              rw [e, Nat.mul_assoc, Nat.mul_comm 2]
              exact wt
            · simp only [PyData.depth, PyData.depthAll]; omega
          · have ee : ¬ early (.int i) = true := by
              simp only [early, decide_eq_true_eq]
              exact h11
            rw [List.countP_cons_of_neg ee] at wt det
            simp only [aNext, aAsg, aName, aVar, slot, put, aC, aOp, aUn, aTest, aChain, aAnd, aOr, aNot, aAndV, aOrV, aNotV, aIf, aNil, aCons, aTup, aLst, aCB, aBM, aSl, aPart, aNoPart, aDrop, aRet, aIfS, aPar, aAug, aSub, aUnp, aGNil, aGCons, aCall, aYes, aNilEq, aJoin, wRange1, wAny, wStr, wEnum, wEnumD, wKeys, wVals, wItems, lkAt, aLc, aDc, aDc2, aDNew, aRev, aSetd, aGet1, aGet2, isD, dAt, Ab.keyOf, wipeA, List.set_cons_zero, List.set_cons_succ, asStrs_map, bSub, bAdd, bIAdd, bNeg, bIx, bSl, bInt, bSet, bPop, bInsert, bAppend, bExtend, bML, bIsB, one, bLen, bList, bTuple, bSum, bToInt, bDict, bSorted, bMax, bAny, bAll, asBls_map, bMulL, aDispF, aSortSet, aListVals, aCallK, tyA, at0, at1, at2, at3, ixL0, ixL1, ixL2, set0, set1, set2, updA_same, updA_twice, List.append_nil, List.cons_append, List.nil_append, id_eq]
            refine ⟨trivial, ?_⟩
            rw [decide_eq_false h11, if_neg Bool.false_ne_true]
            exact hnx _ _ (.keep ⟨_, _, _, _, dt, _, _, rfl, rfl, ot, or2, oh2, ft, fr2, fh2, wt, det, wr2, dr2, wh2, dh2, hi'⟩)
        · rintro _ m7 ⟨y5, tr, ro, he, dt, dr, dh, rfl, em, ot, orr, oh, ft, fr, fh, wt, det, wr, der, wh, deh, -⟩
          subst m7
          refine ⟨trivial, .keep ?_⟩
          simp only [List.countP_nil, Nat.pow_zero, Nat.mul_one, List.length_nil, Nat.mul_zero, Nat.add_zero] at wt det wr der wh deh
          refine seq_i ?_
          simp only [aNext, aAsg, aName, aVar, slot, put, aC, aOp, aUn, aTest, aChain, aAnd, aOr, aNot, aAndV, aOrV, aNotV, aIf, aNil, aCons, aTup, aLst, aCB, aBM, aSl, aPart, aNoPart, aDrop, aRet, aIfS, aPar, aAug, aSub, aUnp, aGNil, aGCons, aCall, aYes, aNilEq, aJoin, wRange1, wAny, wStr, wEnum, wEnumD, wKeys, wVals, wItems, lkAt, aLc, aDc, aDc2, aDNew, aRev, aSetd, aGet1, aGet2, isD, dAt, Ab.keyOf, wipeA, List.set_cons_zero, List.set_cons_succ, asStrs_map, bSub, bAdd, bIAdd, bNeg, bIx, bSl, bInt, bSet, bPop, bInsert, bAppend, bExtend, bML, bIsB, one, bLen, bList, bTuple, bSum, bToInt, bDict, bSorted, bMax, bAny, bAll, asBls_map, bMulL, aDispF, aSortSet, aListVals, aCallK, tyA, at0, at1, at2, at3, ixL0, ixL1, ixL2, set0, set1, set2, updA_same, updA_twice, List.append_nil, List.cons_append, List.nil_append, id_eq]
          refine ⟨sz (by simp), fun p hp => ⟨sz (by simp), sz (by simp), sz (by simp), sz (by simp), sz (by simp), sz (by simp), sz (by simp), ?_⟩⟩
          generalize eL : [tr, ro, he, .tup [tr, AV.ref p], .tup [tr, .str "A"], .tup [.int 1, ro], .tup [he, .tup [.str "?", .int (-1)]], .tup [he, .tup [.str "?", .int 5]]] = L8
          refine ⟨sz (by rw [← eL]; simp), fun p1 hp1 => ?_⟩
          have w8 := (ow.free hp (nol [.int 1])).free hp1 (nol L8)
          have s8 := (Sub.refl.new hp (o := .lst [.int 1])).alloc hp1 (o := .lst L8)
          have a8 := updA_keep (o := .lst L8) hp1 (updA_same (m := m6) (a := p) (o := .lst [.int 1]))
          have c8 := s8 _ _ (sub _ _ e4)
          generalize updA (updA m6 p (.lst [.int 1])) p1 (.lst L8) = m8 at w8 s8 a8 c8 ⊢
          rw [c8]
          have o8 : OdsAt m8 (lastD dt dr dh) L8 := by
            have oa : OdAt m8 (.list [.int 1]) (.ref p) := .lst a8 (.cons (.int 1) .nil)
            have oT := ot.mono s8
            have oR := orr.mono s8
            have oH := oh.mono s8
            rw [← eL]
            unfold lastD
            repeat' first | assumption | exact OdsAt.nil | refine OdsAt.cons ?_ ?_ | exact OdAt.non | exact OdAt.bl _ | exact OdAt.int _ | exact OdAt.str _ | refine OdAt.tup ?_
          have ok8 := lastD_ok ft fr fh (by omega) det wr der wh (by omega)
          have l8 := o8.length
          have l88 : (lastD dt dr dh).length = 8 := rfl
          have o9 := (o4.mono (sub.trans s8)).app o8
          have okA : OkAll (D27 ++ lastD dt dr dh) := fun e he => (List.mem_append.mp he).elim (okO e) (ok8 e)
          refine ⟨sz (by omega), fun p2 hp2 => .keep ?_⟩
          have w9 := w8.free hp2 (nol (L27 ++ L8))
          have s9 := Sub.refl.new hp2 (o := .lst (L27 ++ L8))
          have e9 := updA_same (m := m8) (a := p2) (o := .lst (L27 ++ L8))
          have o9 := o9.mono s9
          have l9 : (L27 ++ L8).length = 35 := by rw [List.length_append]; omega
          generalize updA m8 p2 (.lst (L27 ++ L8)) = m9 at w9 e9 o9 ⊢
          generalize L27 ++ L8 = L35 at o9 l9 e9 ⊢
          simp only [aNext, aAsg, aName, aVar, slot, put, aC, aOp, aUn, aTest, aChain, aAnd, aOr, aNot, aAndV, aOrV, aNotV, aIf, aNil, aCons, aTup, aLst, aCB, aBM, aSl, aPart, aNoPart, aDrop, aRet, aIfS, aPar, aAug, aSub, aUnp, aGNil, aGCons, aCall, aYes, aNilEq, aJoin, wRange1, wAny, wStr, wEnum, wEnumD, wKeys, wVals, wItems, lkAt, aLc, aDc, aDc2, aDNew, aRev, aSetd, aGet1, aGet2, isD, dAt, Ab.keyOf, wipeA, List.set_cons_zero, List.set_cons_succ, asStrs_map, bSub, bAdd, bIAdd, bNeg, bIx, bSl, bInt, bSet, bPop, bInsert, bAppend, bExtend, bML, bIsB, one, bLen, bList, bTuple, bSum, bToInt, bDict, bSorted, bMax, bAny, bAll, asBls_map, bMulL, aDispF, aSortSet, aListVals, aCallK, tyA, at0, at1, at2, at3, ixL0, ixL1, ixL2, set0, set1, set2, updA_same, updA_twice, List.append_nil, List.cons_append, List.nil_append, id_eq, e9]
          intro D hD
          refine lc_fn0 (fun _ => none) (fun acc => updA_keep hD e9) L35 (fun x hx acc k2 hk2 => ?_) (show _ < 16777216 by omega) ?_
          · obtain ⟨e, he, oe⟩ := o9.mem hx
            obtain ⟨f1, f2⟩ := okA.fit he
            simp only [aNext, aAsg, aName, aVar, slot, put, aC, aOp, aUn, aTest, aChain, aAnd, aOr, aNot, aAndV, aOrV, aNotV, aIf, aNil, aCons, aTup, aLst, aCB, aBM, aSl, aPart, aNoPart, aDrop, aRet, aIfS, aPar, aAug, aSub, aUnp, aGNil, aGCons, aCall, aYes, aNilEq, aJoin, wRange1, wAny, wStr, wEnum, wEnumD, wKeys, wVals, wItems, lkAt, aLc, aDc, aDc2, aDNew, aRev, aSetd, aGet1, aGet2, isD, dAt, Ab.keyOf, wipeA, List.set_cons_zero, List.set_cons_succ, asStrs_map, bSub, bAdd, bIAdd, bNeg, bIx, bSl, bInt, bSet, bPop, bInsert, bAppend, bExtend, bML, bIsB, one, bLen, bList, bTuple, bSum, bToInt, bDict, bSorted, bMax, bAny, bAll, asBls_map, bMulL, aDispF, aSortSet, aListVals, aCallK, tyA, at0, at1, at2, at3, ixL0, ixL1, ixL2, set0, set1, set2, updA_same, updA_twice, List.append_nil, List.cons_append, List.nil_append, id_eq, spRightD]
            refine ⟨w9.free hD (nol acc), e, oe.mono (Sub.refl.new hD), f1, f2, ?_⟩
            simp only [Bool.not_true, if_neg Bool.false_ne_true]
            exact .keep hk2
          · have eF : L35.filterMap (fun _ => (none : Option AV)) = [] := by simp
            simp only [updA_same, eF, List.isEmpty_nil]
            exact Fin.same (k _)
        · rw [early_cnt, str_size]
          have := ov0.2.1
          omega
        · rw [early_cnt]
          simp only [PyData.depth]
          omega
        · obtain ⟨i, rfl, hi⟩ := upto_mem hy
          exact ⟨i, rfl, hi⟩
      · obtain ⟨i, rfl, hi⟩ := upto_mem hy
        exact ⟨i, rfl⟩
    · obtain ⟨i, rfl, hi⟩ := upto_mem hy
      exact ⟨i, rfl⟩
  · exact h.elim
end K01

namespace K01
open PySem PySem.Spec PyProof.Rows L2 Ab
theorem no_def {P : Program} {w : World} {K : PySem.W.Frag} {mg : Str → Option Value} {base : Heap} {k : Nat} {x : Str} {st : Stmt} {ps : List Str} (T : Top K mg x st ps) : Def P w K mg base k x ps (fun _ _ _ => False) := by
  obtain ⟨f, fd, hm, F, B⟩ := T.ex
  exact ⟨f, fd, hm, F.kp, B, ⟨fun _ _ _ _ ⟨_, _, _, _, _, h, _⟩ => h.elim, fun _ _ _ _ _ _ _ _ _ _ _ _ _ _ ⟨_, _, _, _, _, h, _⟩ => h.elim⟩⟩
section
variable {P : Program} {w : World} {K : PySem.W.Frag} {mg : Str → Option Value} {base : Heap} {k : Nat}
theorem d_is_word (T : TxtB K mg base) : Def P w K mg base 1 "is_word" p_is_word spWordD := w_is_word (k := 0) T  (fun xs m q h => by
  unfold spWordD at h; split at h <;> first | rfl | exact h.elim) r_is_word
theorem d_is_whole (T : TxtB K mg base) : Def P w K mg base 1 "is_whole" p_is_whole spWholeD := w_is_whole (k := 0) T  (fun xs m q h => by
  unfold spWholeD at h; split at h <;> first | rfl | exact h.elim) r_is_whole
theorem d_is_marked (T : TxtB K mg base) : Def P w K mg base 1 "is_marked" p_is_marked spMarkedD := w_is_marked (k := 0) T  (fun xs m q h => by
  unfold spMarkedD at h; split at h <;> first | rfl | exact h.elim) r_is_marked
theorem d_is_term (T : TxtB K mg base) : Def P w K mg base 2 "is_term" p_is_term spIsTerm := w_is_term (k := 1) T ((d_is_marked T).up (by omega)) ((d_is_whole T).up (by omega)) ((d_is_word T).up (by omega)) (fun xs m q h => by
  unfold spIsTerm at h; split at h <;> first | rfl | exact h.elim) r_is_term
theorem d__law_deck (T : TxtB K mg base) : Def P w K mg base 1 "_law_deck" p__law_deck spDeck := w__law_deck (k := 0) T  (fun xs m q h => by
  unfold spDeck at h; split at h <;> first | rfl | exact h.elim) r__law_deck
theorem d__law_draw (T : TxtB K mg base) : Def P w K mg base 1 "_law_draw" p__law_draw spDraw := w__law_draw (k := 0) T  (fun xs m q h => by
  unfold spDraw at h; split at h <;> first | rfl | exact h.elim) r__law_draw
theorem d__law_names (T : TxtB K mg base) : Def P w K mg base 2 "_law_names" p__law_names spNames := w__law_names (k := 1) T ((d__law_draw T).up (by omega)) (fun xs m q h => by
  unfold spNames at h; split at h <;> first | rfl | exact h.elim) r__law_names
theorem d__law_number (T : TxtB K mg base) : Def P w K mg base 2 "_law_number" p__law_number spNumber := w__law_number (k := 1) T ((d__law_draw T).up (by omega)) (fun xs m q h => by
  unfold spNumber at h; split at h <;> first | rfl | exact h.elim) r__law_number
theorem d__law_tip (T : TxtB K mg base) : Def P w K mg base 3 "_law_tip" p__law_tip spTip := w__law_tip (k := 2) T ((d__law_draw T).up (by omega)) ((d__law_number T).up (by omega)) (fun xs m q h => by
  unfold spTip at h; split at h <;> first | rfl | exact h.elim) r__law_tip
theorem len__law_term {n : Nat} {xs : List AV} {m : AHp} {q : AK} (h : spTerm n xs m q) : xs.length = 5 := by
  unfold spTerm at h; split at h <;> first | rfl | exact h.elim
theorem d__law_term (T : TxtB K mg base) : ∀ n, Def P w K mg base (4 + n) "_law_term" p__law_term (spTerm n)
  | 0 => w__law_term (k := 3) T ((d__law_draw T).up (by omega)) (no_def T.t__law_term) ((d__law_tip T).up (by omega)) (fun _ _ _ h => len__law_term h) (r__law_term 0 fun _ _ _ h => absurd rfl h)
  | n + 1 => w__law_term (k := 4 + n) T ((d__law_draw T).up (by omega)) ((d__law_term T n).up (by omega)) ((d__law_tip T).up (by omega)) (fun _ _ _ h => len__law_term h) (r__law_term (n + 1) fun _ _ _ _ h => h)
theorem d__law_any_term (T : TxtB K mg base) : Def P w K mg base 34 "_law_any_term" p__law_any_term spAny := w__law_any_term (k := 33) T ((d__law_draw T).up (by omega)) ((d__law_term T 29).up (by omega)) ((d__law_tip T).up (by omega)) (fun xs m q h => by
  unfold spAny at h; split at h <;> first | rfl | exact h.elim) r__law_any_term
theorem d__law_is_word (T : TxtB K mg base) : Def P w K mg base 1 "_law_is_word" p__law_is_word spWordD := w__law_is_word (k := 0) T  (fun xs m q h => by
  unfold spWordD at h; split at h <;> first | rfl | exact h.elim) r__law_is_word
theorem d__law_whole (T : TxtB K mg base) : Def P w K mg base 1 "_law_whole" p__law_whole spWholeD := w__law_whole (k := 0) T  (fun xs m q h => by
  unfold spWholeD at h; split at h <;> first | rfl | exact h.elim) r__law_whole
theorem len__law_is_term {n : Nat} {xs : List AV} {m : AHp} {q : AK} (h : spLawTerm n xs m q) : xs.length = 1 := by
  unfold spLawTerm at h; split at h <;> first | rfl | exact h.elim
theorem d__law_is_term (T : TxtB K mg base) : ∀ n, Def P w K mg base (2 + n) "_law_is_term" p__law_is_term (spLawTerm n)
  | 0 => w__law_is_term (k := 1) T (no_def T.t__law_is_term) ((d__law_is_word T).up (by omega)) ((d__law_whole T).up (by omega)) (fun _ _ _ h => len__law_is_term h) (r__law_is_term 0 fun _ _ _ h => absurd rfl h)
  | n + 1 => w__law_is_term (k := 2 + n) T ((d__law_is_term T n).up (by omega)) ((d__law_is_word T).up (by omega)) ((d__law_whole T).up (by omega)) (fun _ _ _ h => len__law_is_term h) (r__law_is_term (n + 1) fun _ _ _ _ h => h)
theorem d__law_odd (T : TxtB K mg base) : Def P w K mg base 2 "_law_odd" p__law_odd spOdd := w__law_odd (k := 1) T ((d__law_draw T).up (by omega)) (fun xs m q h => by
  unfold spOdd at h; split at h <;> first | rfl | exact h.elim) r__law_odd
theorem len__law_bent {n : Nat} {xs : List AV} {m : AHp} {q : AK} (h : spBent n xs m q) : xs.length = 2 := by
  unfold spBent at h; split at h <;> first | rfl | exact h.elim
theorem d__law_bent (T : TxtB K mg base) : ∀ n, Def P w K mg base (3 + n) "_law_bent" p__law_bent (spBent n)
  | 0 => w__law_bent (k := 2) T (no_def T.t__law_bent) ((d__law_draw T).up (by omega)) ((d__law_odd T).up (by omega)) (fun _ _ _ h => len__law_bent h) (r__law_bent 0 fun _ _ _ h => absurd rfl h)
  | n + 1 => w__law_bent (k := 3 + n) T ((d__law_bent T n).up (by omega)) ((d__law_draw T).up (by omega)) ((d__law_odd T).up (by omega)) (fun _ _ _ h => len__law_bent h) (r__law_bent (n + 1) fun _ _ _ _ h => h)
theorem d__law_right (T : TxtB K mg base) : Def P w K mg base 73 "_law_right" p__law_right spRightD := w__law_right (k := 72) T ((d__law_is_term T 70).up (by omega)) ((d__law_is_word T).up (by omega)) ((d_is_term T).up (by omega)) ((d_is_word T).up (by omega)) (fun xs m q h => by
  unfold spRightD at h; split at h <;> first | rfl | exact h.elim) r__law_right
theorem end_law (T₀ : Txt K mg) {fa : Addr} (hfa : mg "law" = some (.ref fa)) : ∃ fd : FuncData, (∀ (s : Shared) (v : Value), BindsTo s fd ⟨[v], []⟩ [("_law_script", v)]) ∧ ∀ base : Heap, K.In base → base.Ns mainGlobals mg → Mods base → AFn P w K mg base 74 fa fd ["_law_script"] spEnd := by
  obtain ⟨f, fd, hm, F, B⟩ := T₀.t_law.ex
  have e := hfa.symm.trans hm
  cases e
  refine ⟨fd, fun s v => ?_, fun base _ _ hmo => (fun (T : TxtB K mg base) => okB (k := 73) F sc_law (fun xs m q h => by unfold spEnd at h; split at h <;> first | rfl | exact h.elim) fun cdv A o s H E hr hgd => ?_) ⟨T₀, hmo⟩⟩
  · obtain ⟨oc, od, kV, doc, pm, an, cdv, ct, osl, rfl, lk, hcd⟩ := F.ex
    exact .of_eq rfl
  · have hu := room164 hr
    have d__law_any_term := (d__law_any_term (P := P) (w := w) (base := base) T).up (show 34 ≤ 73 by omega)
    have d__law_bent := (d__law_bent (P := P) (w := w) (base := base) T 40).up (show 3 + 40 ≤ 73 by omega)
    have d__law_deck := (d__law_deck (P := P) (w := w) (base := base) T).up (show 1 ≤ 73 by omega)
    have d__law_draw := (d__law_draw (P := P) (w := w) (base := base) T).up (show 1 ≤ 73 by omega)
    have d__law_names := (d__law_names (P := P) (w := w) (base := base) T).up (show 2 ≤ 73 by omega)
    have d__law_right := (d__law_right (P := P) (w := w) (base := base) T).up (show 73 ≤ 73 by omega)
    have d_is_term := (d_is_term (P := P) (w := w) (base := base) T).up (show 2 ≤ 73 by omega)
    have d_is_word := (d_is_word (P := P) (w := w) (base := base) T).up (show 1 ≤ 73 by omega)
    exact ⟨(t_law K spAny (spBent 40) spDeck spDraw spNames spRightD spIsTerm spWordD), (ass_cons (as_set (i := 1) sc_law.nd rfl (.inl rfl) (ae_callN d__law_deck hr (by omega) hgd rfl (aa_cons (ae_var (pv 0)) aa_nil)))
      (ass_cons (as_set (i := 2) sc_law.nd rfl (.inl rfl) (ae_callN d__law_names hr (by omega) hgd rfl (aa_cons (ae_var (pv 1)) (aa_cons ae_int aa_nil))))
      (ass_cons (as_set (i := 3) sc_law.nd rfl (.inl rfl) (ae_ix (ob_ix hu) (ae_lst (aa_cons (ae_lst (aa_cons ae_int (aa_cons ae_int (aa_cons ae_int (aa_cons ae_int aa_nil))))) (aa_cons (ae_lst (aa_cons ae_int (aa_cons ae_int (aa_cons ae_int (aa_cons ae_int aa_nil))))) (aa_cons (ae_lst aa_nil) aa_nil)))) (ae_callN d__law_draw hr (by omega) hgd rfl (aa_cons (ae_var (pv 1)) (aa_cons ae_int aa_nil)))))
      (ass_cons (as_set (i := 4) sc_law.nd rfl (.inl rfl) ae_int)
      (ass_cons (as_for PassesOwn.never rfl (ai_range1 rfl T.b_range ae_int) (ag_name (pg_name (i := 5) sc_law.nd rfl (.inl rfl)))
        (ass_one (as_set (i := 4) sc_law.nd rfl (.inl rfl) (ae_ix (ob_ix hu) (ae_lst (aa_cons (ae_tup (aa_cons (ae_var (pv 4)) (aa_cons (ae_tup aa_nil) aa_nil))) (aa_cons (ae_lst (aa_cons (ae_var (pv 4)) aa_nil)) (aa_cons (ae_tup (aa_cons ae_int (aa_cons (ae_var (pv 4)) aa_nil))) aa_nil)))) (ae_op ob_mod (ae_var (pv 5)) ae_int)))))
      (ass_cons (as_set (i := 6) sc_law.nd rfl (.inl rfl) (ae_lst (aa_cons ae_non (aa_cons ae_bl (aa_cons ae_bl (aa_cons ae_int (aa_cons (ae_un ub_neg ae_int) (aa_cons (ae_op ob_pow ae_int ae_int) (aa_cons ae_str (aa_cons ae_str (aa_cons ae_str (aa_cons ae_str (aa_cons ae_str (aa_cons ae_str (aa_cons ae_str (aa_cons ae_str (aa_cons (ae_tup aa_nil) (aa_cons (ae_lst aa_nil) (aa_cons ae_dnew aa_nil)))))))))))))))))))
      (ass_cons (as_set (i := 6) sc_law.nd rfl (.inl rfl) (ae_op ob_add (ae_var (pv 6)) (ae_lst (aa_cons (ae_var (pv 4)) (aa_cons (ae_tup (aa_cons ae_int (aa_cons ae_int aa_nil))) (aa_cons (ae_tup (aa_cons ae_int (aa_cons ae_int (aa_cons ae_int aa_nil)))) (aa_cons (ae_tup (aa_cons ae_str (aa_cons ae_int aa_nil))) (aa_cons (ae_tup (aa_cons ae_str (aa_cons (ae_un ub_neg ae_int) aa_nil))) (aa_cons (ae_tup (aa_cons ae_str (aa_cons ae_bl aa_nil))) (aa_cons (ae_tup (aa_cons ae_str (aa_cons ae_str aa_nil))) (aa_cons (ae_tup (aa_cons ae_str (aa_cons ae_str aa_nil))) (aa_cons (ae_disp1 ae_int ae_int) aa_nil))))))))))))
      (ass_cons (as_expr (ae_append (ae_var (pv 6)) (aa_cons (ae_tup (aa_cons (ae_tup (aa_cons ae_str (aa_cons ae_int aa_nil))) (aa_cons (ae_tup (aa_cons ae_str aa_nil)) aa_nil))) aa_nil)))
      (ass_cons (as_for PassesOwn.never rfl (ai_range1 rfl T.b_range ae_int) (ag_name (pg_name (i := 5) sc_law.nd rfl (.inl rfl)))
        (ass_cons (as_set (i := 7) sc_law.nd rfl (.inl rfl) (ae_callN d__law_any_term hr (by omega) hgd rfl (aa_cons (ae_var (pv 1)) (aa_cons (ae_var (pv 2)) (aa_cons (ae_var (pv 3)) aa_nil)))))
      (ass_cons (as_if (at_w (aw_or (at_cmp ob_isNot (ae_callN d_is_term hr (by omega) hgd rfl (aa_cons (ae_var (pv 7)) aa_nil)) ae_bl (nomark _)) (aw_or1 (at_cmp ob_isNot (ae_callN d_is_word hr (by omega) hgd rfl (aa_cons (ae_ix (ob_ix hu) (ae_var (pv 2)) (ae_op ob_mod (ae_var (pv 5)) ae_int)) aa_nil)) ae_bl (nomark _)))))
        (ass_one (as_ret ae_bl))
        ass_nil)
      (ass_cons (as_for PassesOwn.never rfl (ai_range1 rfl T.b_range ae_int) (ag_name (pg_name (i := 8) sc_law.nd rfl (.inl rfl)))
        (ass_cons (as_set (i := 9) sc_law.nd rfl (.inl rfl) (ae_callN d__law_draw hr (by omega) hgd rfl (aa_cons (ae_var (pv 1)) (aa_cons ae_int aa_nil))))
      (ass_cons (as_set (i := 10) sc_law.nd rfl (.inl rfl) (ae_callN d__law_bent hr (by omega) hgd rfl (aa_cons (ae_var (pv 1)) (aa_cons (ae_var (pv 7)) aa_nil))))
      (ass_cons (as_if (at_cmp (ob_eq hu) (ae_var (pv 9)) ae_int (nomark _))
        (ass_one (as_set (i := 10) sc_law.nd rfl (.inl rfl) (ae_callN d__law_bent hr (by omega) hgd rfl (aa_cons (ae_var (pv 1)) (aa_cons (ae_var (pv 10)) aa_nil)))))
        ass_nil)
      (ass_one (as_if (at_w (aw_or (at_not (at_val (ae_callN d__law_right hr (by omega) hgd rfl (aa_cons (ae_var (pv 10)) aa_nil)))) (aw_or1 (at_not (at_val (ae_callN d__law_right hr (by omega) hgd rfl (aa_cons (ae_callN d__law_bent hr (by omega) hgd rfl (aa_cons (ae_var (pv 1)) (aa_cons (ae_ix (ob_ix hu) (ae_var (pv 2)) (ae_op ob_mod (ae_var (pv 8)) ae_int)) aa_nil))) aa_nil)))))))
        (ass_one (as_ret ae_bl))
        ass_nil))))))
      (ass_one (as_if (at_not (at_val (ae_callN d__law_right hr (by omega) hgd rfl (aa_cons (ae_var (pv 7)) aa_nil))))
        (ass_one (as_ret ae_bl))
        ass_nil))))))
      (ass_cons (as_par3 (i := 11) (j := 12) (l := 13) rfl sc_law.nd rfl rfl rfl (by decide) (by decide) (by decide) rfl rfl rfl (aa_cons (ae_ix (ob_ix hu) (ae_var (pv 2)) ae_int) (aa_cons (ae_tup aa_nil) (aa_cons ae_int aa_nil))) rfl)
      (ass_cons (as_for PassesOwn.never rfl (ai_range1 rfl T.b_range ae_int) (ag_name (pg_name (i := 5) sc_law.nd rfl (.inl rfl)))
        (ass_cons (as_par (i := 12) (j := 13) rfl sc_law.nd rfl rfl (by decide) rfl rfl (aa_cons (ae_tup (aa_cons (ae_var (pv 5)) (aa_cons (ae_var (pv 12)) aa_nil))) (aa_cons (ae_tup (aa_cons (ae_var (pv 13)) (aa_cons (ae_tup aa_nil) aa_nil))) aa_nil)) rfl)
      (ass_one (as_if (at_cmp ob_lt (ae_var (pv 5)) ae_int (nomark _))
        (ass_one (as_set (i := 11) sc_law.nd rfl (.inl rfl) (ae_tup (aa_cons (ae_var (pv 11)) (aa_cons (ae_var (pv 11)) aa_nil)))))
        ass_nil))))
      (ass_cons (as_set (i := 6) sc_law.nd rfl (.inl rfl) (ae_op ob_add (ae_var (pv 6)) (ae_lst (aa_cons (ae_var (pv 11)) (aa_cons (ae_var (pv 12)) (aa_cons (ae_var (pv 13)) (aa_cons (ae_tup (aa_cons (ae_var (pv 11)) (aa_cons (ae_lst (aa_cons ae_int aa_nil)) aa_nil))) (aa_cons (ae_tup (aa_cons (ae_var (pv 11)) (aa_cons ae_str aa_nil))) (aa_cons (ae_tup (aa_cons ae_int (aa_cons (ae_var (pv 12)) aa_nil))) (aa_cons (ae_tup (aa_cons (ae_var (pv 13)) (aa_cons (ae_tup (aa_cons ae_str (aa_cons (ae_un ub_neg ae_int) aa_nil))) aa_nil))) (aa_cons (ae_tup (aa_cons (ae_var (pv 13)) (aa_cons (ae_tup (aa_cons ae_str (aa_cons ae_int aa_nil))) aa_nil))) aa_nil)))))))))))
      (ass_one (as_ret (ae_eqNil hu (ae_lc (own := [("_law_thing", 10)]) rfl sc_law.nd (ai_seq (ae_var (pv 6))) (blkOk_by (own := [("_law_thing", 10)]) (N := n_law) (sc := defScope s_law) (by decide +kernel)) (fun _ _ _ _ _ => (ag_name (pg_name (i := 10) sc_law.nd rfl (.inl rfl)))) (fun _ _ _ _ _ => (ats_one (at_not (at_val (ae_callN d__law_right hr (by omega) hgd rfl (aa_cons (ae_var (pv 10)) aa_nil)))))) (fun _ _ _ _ _ => (ae_var (pv 10))))))))))))))))))), r_law⟩
end
theorem txt_mk {K : PySem.W.Frag} {h : Heap} {mg : Str → Option Value} (X : K.In h) (G : h.Ns mainGlobals mg)
    {f0 : Addr} {od0 an0 : Option Addr} {sl0 : Array (Option Value)} {oc0 kV0 dc0 pm0 cd0 ct0 : Value}
    (a0 : PySem.W.nsIn K mainGlobals "is_word" = some (some (.ref f0))) (l0 : K.lookup f0 = some ⟨oc0, od0, .func (PySem.W.fnOf "is_word" "is_word" (defArgs s_is_word) (defBody s_is_word) (defScope s_is_word) .none kV0 dc0 pm0 an0 cd0 ct0), sl0⟩) (c0 : PySem.W.codeIn K cd0 "is_word" = true) (k0 : PySem.W.keepIn K (.ref f0) = true)
    {f1 : Addr} {od1 an1 : Option Addr} {sl1 : Array (Option Value)} {oc1 kV1 dc1 pm1 cd1 ct1 : Value}
    (a1 : PySem.W.nsIn K mainGlobals "is_whole" = some (some (.ref f1))) (l1 : K.lookup f1 = some ⟨oc1, od1, .func (PySem.W.fnOf "is_whole" "is_whole" (defArgs s_is_whole) (defBody s_is_whole) (defScope s_is_whole) .none kV1 dc1 pm1 an1 cd1 ct1), sl1⟩) (c1 : PySem.W.codeIn K cd1 "is_whole" = true) (k1 : PySem.W.keepIn K (.ref f1) = true)
    {f2 : Addr} {od2 an2 : Option Addr} {sl2 : Array (Option Value)} {oc2 kV2 dc2 pm2 cd2 ct2 : Value}
    (a2 : PySem.W.nsIn K mainGlobals "is_marked" = some (some (.ref f2))) (l2 : K.lookup f2 = some ⟨oc2, od2, .func (PySem.W.fnOf "is_marked" "is_marked" (defArgs s_is_marked) (defBody s_is_marked) (defScope s_is_marked) .none kV2 dc2 pm2 an2 cd2 ct2), sl2⟩) (c2 : PySem.W.codeIn K cd2 "is_marked" = true) (k2 : PySem.W.keepIn K (.ref f2) = true)
    {f3 : Addr} {od3 an3 : Option Addr} {sl3 : Array (Option Value)} {oc3 kV3 dc3 pm3 cd3 ct3 : Value}
    (a3 : PySem.W.nsIn K mainGlobals "is_term" = some (some (.ref f3))) (l3 : K.lookup f3 = some ⟨oc3, od3, .func (PySem.W.fnOf "is_term" "is_term" (defArgs s_is_term) (defBody s_is_term) (defScope s_is_term) .none kV3 dc3 pm3 an3 cd3 ct3), sl3⟩) (c3 : PySem.W.codeIn K cd3 "is_term" = true) (k3 : PySem.W.keepIn K (.ref f3) = true)
    {f4 : Addr} {od4 an4 : Option Addr} {sl4 : Array (Option Value)} {oc4 kV4 dc4 pm4 cd4 ct4 : Value}
    (a4 : PySem.W.nsIn K mainGlobals "_law_deck" = some (some (.ref f4))) (l4 : K.lookup f4 = some ⟨oc4, od4, .func (PySem.W.fnOf "_law_deck" "_law_deck" (defArgs s__law_deck) (defBody s__law_deck) (defScope s__law_deck) .none kV4 dc4 pm4 an4 cd4 ct4), sl4⟩) (c4 : PySem.W.codeIn K cd4 "_law_deck" = true) (k4 : PySem.W.keepIn K (.ref f4) = true)
    {f5 : Addr} {od5 an5 : Option Addr} {sl5 : Array (Option Value)} {oc5 kV5 dc5 pm5 cd5 ct5 : Value}
    (a5 : PySem.W.nsIn K mainGlobals "_law_draw" = some (some (.ref f5))) (l5 : K.lookup f5 = some ⟨oc5, od5, .func (PySem.W.fnOf "_law_draw" "_law_draw" (defArgs s__law_draw) (defBody s__law_draw) (defScope s__law_draw) .none kV5 dc5 pm5 an5 cd5 ct5), sl5⟩) (c5 : PySem.W.codeIn K cd5 "_law_draw" = true) (k5 : PySem.W.keepIn K (.ref f5) = true)
    {f6 : Addr} {od6 an6 : Option Addr} {sl6 : Array (Option Value)} {oc6 kV6 dc6 pm6 cd6 ct6 : Value}
    (a6 : PySem.W.nsIn K mainGlobals "_law_names" = some (some (.ref f6))) (l6 : K.lookup f6 = some ⟨oc6, od6, .func (PySem.W.fnOf "_law_names" "_law_names" (defArgs s__law_names) (defBody s__law_names) (defScope s__law_names) .none kV6 dc6 pm6 an6 cd6 ct6), sl6⟩) (c6 : PySem.W.codeIn K cd6 "_law_names" = true) (k6 : PySem.W.keepIn K (.ref f6) = true)
    {f7 : Addr} {od7 an7 : Option Addr} {sl7 : Array (Option Value)} {oc7 kV7 dc7 pm7 cd7 ct7 : Value}
    (a7 : PySem.W.nsIn K mainGlobals "_law_number" = some (some (.ref f7))) (l7 : K.lookup f7 = some ⟨oc7, od7, .func (PySem.W.fnOf "_law_number" "_law_number" (defArgs s__law_number) (defBody s__law_number) (defScope s__law_number) .none kV7 dc7 pm7 an7 cd7 ct7), sl7⟩) (c7 : PySem.W.codeIn K cd7 "_law_number" = true) (k7 : PySem.W.keepIn K (.ref f7) = true)
    {f8 : Addr} {od8 an8 : Option Addr} {sl8 : Array (Option Value)} {oc8 kV8 dc8 pm8 cd8 ct8 : Value}
    (a8 : PySem.W.nsIn K mainGlobals "_law_tip" = some (some (.ref f8))) (l8 : K.lookup f8 = some ⟨oc8, od8, .func (PySem.W.fnOf "_law_tip" "_law_tip" (defArgs s__law_tip) (defBody s__law_tip) (defScope s__law_tip) .none kV8 dc8 pm8 an8 cd8 ct8), sl8⟩) (c8 : PySem.W.codeIn K cd8 "_law_tip" = true) (k8 : PySem.W.keepIn K (.ref f8) = true)
    {f9 : Addr} {od9 an9 : Option Addr} {sl9 : Array (Option Value)} {oc9 kV9 dc9 pm9 cd9 ct9 : Value}
    (a9 : PySem.W.nsIn K mainGlobals "_law_term" = some (some (.ref f9))) (l9 : K.lookup f9 = some ⟨oc9, od9, .func (PySem.W.fnOf "_law_term" "_law_term" (defArgs s__law_term) (defBody s__law_term) (defScope s__law_term) .none kV9 dc9 pm9 an9 cd9 ct9), sl9⟩) (c9 : PySem.W.codeIn K cd9 "_law_term" = true) (k9 : PySem.W.keepIn K (.ref f9) = true)
    {f10 : Addr} {od10 an10 : Option Addr} {sl10 : Array (Option Value)} {oc10 kV10 dc10 pm10 cd10 ct10 : Value}
    (a10 : PySem.W.nsIn K mainGlobals "_law_any_term" = some (some (.ref f10))) (l10 : K.lookup f10 = some ⟨oc10, od10, .func (PySem.W.fnOf "_law_any_term" "_law_any_term" (defArgs s__law_any_term) (defBody s__law_any_term) (defScope s__law_any_term) .none kV10 dc10 pm10 an10 cd10 ct10), sl10⟩) (c10 : PySem.W.codeIn K cd10 "_law_any_term" = true) (k10 : PySem.W.keepIn K (.ref f10) = true)
    {f11 : Addr} {od11 an11 : Option Addr} {sl11 : Array (Option Value)} {oc11 kV11 dc11 pm11 cd11 ct11 : Value}
    (a11 : PySem.W.nsIn K mainGlobals "_law_is_word" = some (some (.ref f11))) (l11 : K.lookup f11 = some ⟨oc11, od11, .func (PySem.W.fnOf "_law_is_word" "_law_is_word" (defArgs s__law_is_word) (defBody s__law_is_word) (defScope s__law_is_word) .none kV11 dc11 pm11 an11 cd11 ct11), sl11⟩) (c11 : PySem.W.codeIn K cd11 "_law_is_word" = true) (k11 : PySem.W.keepIn K (.ref f11) = true)
    {f12 : Addr} {od12 an12 : Option Addr} {sl12 : Array (Option Value)} {oc12 kV12 dc12 pm12 cd12 ct12 : Value}
    (a12 : PySem.W.nsIn K mainGlobals "_law_whole" = some (some (.ref f12))) (l12 : K.lookup f12 = some ⟨oc12, od12, .func (PySem.W.fnOf "_law_whole" "_law_whole" (defArgs s__law_whole) (defBody s__law_whole) (defScope s__law_whole) .none kV12 dc12 pm12 an12 cd12 ct12), sl12⟩) (c12 : PySem.W.codeIn K cd12 "_law_whole" = true) (k12 : PySem.W.keepIn K (.ref f12) = true)
    {f13 : Addr} {od13 an13 : Option Addr} {sl13 : Array (Option Value)} {oc13 kV13 dc13 pm13 cd13 ct13 : Value}
    (a13 : PySem.W.nsIn K mainGlobals "_law_is_term" = some (some (.ref f13))) (l13 : K.lookup f13 = some ⟨oc13, od13, .func (PySem.W.fnOf "_law_is_term" "_law_is_term" (defArgs s__law_is_term) (defBody s__law_is_term) (defScope s__law_is_term) .none kV13 dc13 pm13 an13 cd13 ct13), sl13⟩) (c13 : PySem.W.codeIn K cd13 "_law_is_term" = true) (k13 : PySem.W.keepIn K (.ref f13) = true)
    {f14 : Addr} {od14 an14 : Option Addr} {sl14 : Array (Option Value)} {oc14 kV14 dc14 pm14 cd14 ct14 : Value}
    (a14 : PySem.W.nsIn K mainGlobals "_law_odd" = some (some (.ref f14))) (l14 : K.lookup f14 = some ⟨oc14, od14, .func (PySem.W.fnOf "_law_odd" "_law_odd" (defArgs s__law_odd) (defBody s__law_odd) (defScope s__law_odd) .none kV14 dc14 pm14 an14 cd14 ct14), sl14⟩) (c14 : PySem.W.codeIn K cd14 "_law_odd" = true) (k14 : PySem.W.keepIn K (.ref f14) = true)
    {f15 : Addr} {od15 an15 : Option Addr} {sl15 : Array (Option Value)} {oc15 kV15 dc15 pm15 cd15 ct15 : Value}
    (a15 : PySem.W.nsIn K mainGlobals "_law_bent" = some (some (.ref f15))) (l15 : K.lookup f15 = some ⟨oc15, od15, .func (PySem.W.fnOf "_law_bent" "_law_bent" (defArgs s__law_bent) (defBody s__law_bent) (defScope s__law_bent) .none kV15 dc15 pm15 an15 cd15 ct15), sl15⟩) (c15 : PySem.W.codeIn K cd15 "_law_bent" = true) (k15 : PySem.W.keepIn K (.ref f15) = true)
    {f16 : Addr} {od16 an16 : Option Addr} {sl16 : Array (Option Value)} {oc16 kV16 dc16 pm16 cd16 ct16 : Value}
    (a16 : PySem.W.nsIn K mainGlobals "_law_right" = some (some (.ref f16))) (l16 : K.lookup f16 = some ⟨oc16, od16, .func (PySem.W.fnOf "_law_right" "_law_right" (defArgs s__law_right) (defBody s__law_right) (defScope s__law_right) .none kV16 dc16 pm16 an16 cd16 ct16), sl16⟩) (c16 : PySem.W.codeIn K cd16 "_law_right" = true) (k16 : PySem.W.keepIn K (.ref f16) = true)
    {f17 : Addr} {od17 an17 : Option Addr} {sl17 : Array (Option Value)} {oc17 kV17 dc17 pm17 cd17 ct17 : Value}
    (a17 : PySem.W.nsIn K mainGlobals "law" = some (some (.ref f17))) (l17 : K.lookup f17 = some ⟨oc17, od17, .func (PySem.W.fnOf "law" "law" (defArgs s_law) (defBody s_law) (defScope s_law) .none kV17 dc17 pm17 an17 cd17 ct17), sl17⟩) (c17 : PySem.W.codeIn K cd17 "law" = true) (k17 : PySem.W.keepIn K (.ref f17) = true)
    (b_all : PySem.W.nsIn K mainGlobals "all" = some none)
    (b_bool : PySem.W.nsIn K mainGlobals "bool" = some none)
    (b_int : PySem.W.nsIn K mainGlobals "int" = some none)
    (b_isinstance : PySem.W.nsIn K mainGlobals "isinstance" = some none)
    (b_len : PySem.W.nsIn K mainGlobals "len" = some none)
    (b_list : PySem.W.nsIn K mainGlobals "list" = some none)
    (b_range : PySem.W.nsIn K mainGlobals "range" = some none)
    (b_repr : PySem.W.nsIn K mainGlobals "repr" = some none)
    (b_str : PySem.W.nsIn K mainGlobals "str" = some none)
    (b_sum : PySem.W.nsIn K mainGlobals "sum" = some none)
    (b_tuple : PySem.W.nsIn K mainGlobals "tuple" = some none)
    {t_LETTERS : Tok} (c_LETTERS : PySem.W.nsIn K mainGlobals "LETTERS" = some (some (.str "abcdefghijklmnopqrstuvwxyz" t_LETTERS)))
    {t_MOST_LETTERS : Tok} (c_MOST_LETTERS : PySem.W.nsIn K mainGlobals "MOST_LETTERS" = some (some (.int 8 t_MOST_LETTERS)))
    {t_UNKNOWN : Tok} (c_UNKNOWN : PySem.W.nsIn K mainGlobals "UNKNOWN" = some (some (.str "?" t_UNKNOWN)))
    : Txt K mg where
  b_all := PySem.W.mg_none_of X G b_all
  b_bool := PySem.W.mg_none_of X G b_bool
  b_int := PySem.W.mg_none_of X G b_int
  b_isinstance := PySem.W.mg_none_of X G b_isinstance
  b_len := PySem.W.mg_none_of X G b_len
  b_list := PySem.W.mg_none_of X G b_list
  b_range := PySem.W.mg_none_of X G b_range
  b_repr := PySem.W.mg_none_of X G b_repr
  b_str := PySem.W.mg_none_of X G b_str
  b_sum := PySem.W.mg_none_of X G b_sum
  b_tuple := PySem.W.mg_none_of X G b_tuple
  c_LETTERS := ⟨t_LETTERS, PySem.W.mg_of X G c_LETTERS⟩
  c_MOST_LETTERS := ⟨t_MOST_LETTERS, PySem.W.mg_of X G c_MOST_LETTERS⟩
  c_UNKNOWN := ⟨t_UNKNOWN, PySem.W.mg_of X G c_UNKNOWN⟩
  t_is_word := top_mk X G a0 l0 c0 k0 (fun _ _ _ _ _ _ us hl => match us, hl with | [_], _ => rfl)
  t_is_whole := top_mk X G a1 l1 c1 k1 (fun _ _ _ _ _ _ us hl => match us, hl with | [_], _ => rfl)
  t_is_marked := top_mk X G a2 l2 c2 k2 (fun _ _ _ _ _ _ us hl => match us, hl with | [_], _ => rfl)
  t_is_term := top_mk X G a3 l3 c3 k3 (fun _ _ _ _ _ _ us hl => match us, hl with | [_], _ => rfl)
  t__law_deck := top_mk X G a4 l4 c4 k4 (fun _ _ _ _ _ _ us hl => match us, hl with | [_], _ => rfl)
  t__law_draw := top_mk X G a5 l5 c5 k5 (fun _ _ _ _ _ _ us hl => match us, hl with | [_, _], _ => rfl)
  t__law_names := top_mk X G a6 l6 c6 k6 (fun _ _ _ _ _ _ us hl => match us, hl with | [_, _], _ => rfl)
  t__law_number := top_mk X G a7 l7 c7 k7 (fun _ _ _ _ _ _ us hl => match us, hl with | [_], _ => rfl)
  t__law_tip := top_mk X G a8 l8 c8 k8 (fun _ _ _ _ _ _ us hl => match us, hl with | [_, _, _], _ => rfl)
  t__law_term := top_mk X G a9 l9 c9 k9 (fun _ _ _ _ _ _ us hl => match us, hl with | [_, _, _, _, _], _ => rfl)
  t__law_any_term := top_mk X G a10 l10 c10 k10 (fun _ _ _ _ _ _ us hl => match us, hl with | [_, _, _], _ => rfl)
  t__law_is_word := top_mk X G a11 l11 c11 k11 (fun _ _ _ _ _ _ us hl => match us, hl with | [_], _ => rfl)
  t__law_whole := top_mk X G a12 l12 c12 k12 (fun _ _ _ _ _ _ us hl => match us, hl with | [_], _ => rfl)
  t__law_is_term := top_mk X G a13 l13 c13 k13 (fun _ _ _ _ _ _ us hl => match us, hl with | [_], _ => rfl)
  t__law_odd := top_mk X G a14 l14 c14 k14 (fun _ _ _ _ _ _ us hl => match us, hl with | [_, _], _ => rfl)
  t__law_bent := top_mk X G a15 l15 c15 k15 (fun _ _ _ _ _ _ us hl => match us, hl with | [_, _], _ => rfl)
  t__law_right := top_mk X G a16 l16 c16 k16 (fun _ _ _ _ _ _ us hl => match us, hl with | [_], _ => rfl)
  t_law := top_mk X G a17 l17 c17 k17 (fun _ _ _ _ _ _ us hl => match us, hl with | [_], _ => rfl)
end K01
open PySem PySem.W PyProof.Rows
set_option maxHeartbeats 0 in
theorem PySem.Challenge.cw_fairsearch_k01_what_is_a_term_holds : PySem.Challenge.rw_fairsearch_k01_what_is_a_term.Holds := by
  w_on; o_law; k_head; (case hw => w_witness2)
  k_fill
  refine Ab.walk_endM (l := PySem.Challenge.rw_fairsearch_k01_what_is_a_term) (n := 63) (k := 74) (x := "_law_script") rfl (by decide) rfl ⟨rfl, by decide, by decide⟩ (fun w h Y => PySem.W.kIn_of Y) (by rfl) ?F
  case F =>
    intro w mg fa h KX G hmg
    refine' K01.end_law (K01.txt_mk KX G ?a0 ?l0 ?c0 ?k0 ?a1 ?l1 ?c1 ?k1 ?a2 ?l2 ?c2 ?k2 ?a3 ?l3 ?c3 ?k3 ?a4 ?l4 ?c4 ?k4 ?a5 ?l5 ?c5 ?k5 ?a6 ?l6 ?c6 ?k6 ?a7 ?l7 ?c7 ?k7 ?a8 ?l8 ?c8 ?k8 ?a9 ?l9 ?c9 ?k9 ?a10 ?l10 ?c10 ?k10 ?a11 ?l11 ?c11 ?k11 ?a12 ?l12 ?c12 ?k12 ?a13 ?l13 ?c13 ?k13 ?a14 ?l14 ?c14 ?k14 ?a15 ?l15 ?c15 ?k15 ?a16 ?l16 ?c16 ?k16 ?a17 ?l17 ?c17 ?k17 ?b_all ?b_bool ?b_int ?b_isinstance ?b_len ?b_list ?b_range ?b_repr ?b_str ?b_sum ?b_tuple ?c_LETTERS ?c_MOST_LETTERS ?c_UNKNOWN) hmg
    (case a0 => k_is)
    (case l0 => k_is)
    (case c0 => k_is)
    (case k0 => k_is)
    (case a1 => k_is)
    (case l1 => k_is)
    (case c1 => k_is)
    (case k1 => k_is)
    (case a2 => k_is)
    (case l2 => k_is)
    (case c2 => k_is)
    (case k2 => k_is)
    (case a3 => k_is)
    (case l3 => k_is)
    (case c3 => k_is)
    (case k3 => k_is)
    (case a4 => k_is)
    (case l4 => k_is)
    (case c4 => k_is)
    (case k4 => k_is)
    (case a5 => k_is)
    (case l5 => k_is)
    (case c5 => k_is)
    (case k5 => k_is)
    (case a6 => k_is)
    (case l6 => k_is)
    (case c6 => k_is)
    (case k6 => k_is)
    (case a7 => k_is)
    (case l7 => k_is)
    (case c7 => k_is)
    (case k7 => k_is)
    (case a8 => k_is)
    (case l8 => k_is)
    (case c8 => k_is)
    (case k8 => k_is)
    (case a9 => k_is)
    (case l9 => k_is)
    (case c9 => k_is)
    (case k9 => k_is)
    (case a10 => k_is)
    (case l10 => k_is)
    (case c10 => k_is)
    (case k10 => k_is)
    (case a11 => k_is)
    (case l11 => k_is)
    (case c11 => k_is)
    (case k11 => k_is)
    (case a12 => k_is)
    (case l12 => k_is)
    (case c12 => k_is)
    (case k12 => k_is)
    (case a13 => k_is)
    (case l13 => k_is)
    (case c13 => k_is)
    (case k13 => k_is)
    (case a14 => k_is)
    (case l14 => k_is)
    (case c14 => k_is)
    (case k14 => k_is)
    (case a15 => k_is)
    (case l15 => k_is)
    (case c15 => k_is)
    (case k15 => k_is)
    (case a16 => k_is)
    (case l16 => k_is)
    (case c16 => k_is)
    (case k16 => k_is)
    (case a17 => k_is)
    (case l17 => k_is)
    (case c17 => k_is)
    (case k17 => k_is)
    (case b_all => k_is)
    (case b_bool => k_is)
    (case b_int => k_is)
    (case b_isinstance => k_is)
    (case b_len => k_is)
    (case b_list => k_is)
    (case b_range => k_is)
    (case b_repr => k_is)
    (case b_str => k_is)
    (case b_sum => k_is)
    (case b_tuple => k_is)
    (case c_LETTERS => k_is)
    (case c_MOST_LETTERS => k_is)
    (case c_UNKNOWN => k_is)

