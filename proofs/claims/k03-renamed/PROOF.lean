import PyProof.Rows.All
import Wide.All
import OpenK.AllK
import Wide.FinOn
import HandS.ForMost
import HandS.Deep
import HandS.Wide
import HandS.IsInst
import HandS.Style
import HandS.TupAny
import HandS.TupLe
import HandS.More
import HandS.Conv
import HandS.DictComp
import HandS.SetKeys
import HandS.Codes
import HandS.Iter
import KE.GoesMore
import HandS.Ends
import PySem.Challenge.RW_fairsearch_k03_renamed
set_option Elab.async false
set_option linter.all false
set_option maxRecDepth 100000
namespace Ab
open PySem PySem.Spec PyProof.Rows L2

inductive AV where
  | non | bl (b : Bool) | int (i : Int) | str (x : Str) | tup (xs : List AV) | ref (a : Addr) | ty (n : String) | scr (ns : List Int)

inductive AO where
  | lst (xs : List AV) | dK (kvs : List (Key × AV)) | ins (C : Addr) (fs : List (Str × AV)) | deck (c : Addr) | hid (a : Addr) | lkd (kvs : List (Key × AV))

abbrev AHp := Addr → Option AO
def updA (m : AHp) (a : Addr) (o : AO) : AHp := fun b => if b = a then some o else m b
theorem updA_same {m : AHp} {a : Addr} {o : AO} : updA m a o a = some o := if_pos rfl
theorem updA_ne {m : AHp} {a b : Addr} {o : AO} (h : b ≠ a) : updA m a o b = m b := if_neg h
theorem updA_twice {m : AHp} {a : Addr} {o u : AO} : updA (updA m a o) a u = updA m a u := by
  funext b
  by_cases h : b = a
  · subst h; rw [updA_same, updA_same]
  · rw [updA_ne h, updA_ne h, updA_ne h]

structure Le0 (K : PySem.W.Frag) (H H' : Hp) : Prop where
  tup : ∀ a ws, SqT K H a ws → SqT K H' a ws
  frz : ∀ a o ws, H a = some (.frz o (.lst ws)) → H' a = some (.frz o (.lst ws))
theorem Le0.refl {K : PySem.W.Frag} {H : Hp} : Le0 K H H := ⟨fun _ _ h => h, fun _ _ _ h => h⟩
theorem Le0.trans {K : PySem.W.Frag} {H H1 H2 : Hp} (a : Le0 K H H1) (b : Le0 K H1 H2) : Le0 K H H2 := ⟨fun c ws h => b.tup c ws (a.tup c ws h), fun c o ws h => b.frz c o ws (a.frz c o ws h)⟩
structure Le (K : PySem.W.Frag) (H H' : Hp) : Prop extends Le0 K H H' where
  lkd : ∀ a o ws, H a = some (.frz o (.dK ws)) → H' a = some (.frz o (.dK ws))
theorem Le.refl {K : PySem.W.Frag} {H : Hp} : Le K H H := ⟨.refl, fun _ _ _ h => h⟩
theorem Le.trans {K : PySem.W.Frag} {H H1 H2 : Hp} (a : Le K H H1) (b : Le K H1 H2) : Le K H H2 := ⟨a.toLe0.trans b.toLe0, fun c o ws h => b.lkd c o ws (a.lkd c o ws h)⟩
theorem Le.upd {K : PySem.W.Frag} {H : Hp} {p : Addr} {o : HO} (h1 : ∀ ws, H p ≠ some (.tup ws)) (h2 : ∀ b u, H p ≠ some (.frz b u)) : Le K H (L2.upd H p o) := by
  have ne : ∀ {a : Addr} {u : HO}, H a = some u → H p ≠ some u → a ≠ p := fun {a u} e n z => by
    subst z
    exact n e
  refine ⟨⟨fun a ws h => ?_, fun a b ws h => ?_⟩, fun a b ws h => ?_⟩
  · rcases h with (h | ⟨b, h⟩) | h
    · exact .inl (.inl (by rw [upd_ne (ne h (h1 _))]; exact h))
    · exact .inl (.inr ⟨b, by rw [upd_ne (ne h (h2 _ _))]; exact h⟩)
    · exact .inr h
  · rw [upd_ne (ne h (h2 _ _))]
    exact h
  · rw [upd_ne (ne h (h2 _ _))]
    exact h
theorem Le.new {K : PySem.W.Frag} {H : Hp} {p : Addr} {o : HO} (h : H p = none) : Le K H (L2.upd H p o) :=
  .upd (fun ws e => by rw [h] at e; cases e) (fun b u e => by rw [h] at e; cases e)
theorem Le.lst {K : PySem.W.Frag} {H : Hp} {p : Addr} {o : HO} {ws : List V} (h : H p = some (.lst ws)) : Le K H (L2.upd H p o) :=
  .upd (fun _ e => by rw [h] at e; cases e) (fun b u e => by rw [h] at e; cases e)
theorem Le.dict {K : PySem.W.Frag} {H : Hp} {p : Addr} {o : HO} {ws : List (Key × V)} (h : H p = some (.dK ws)) : Le K H (L2.upd H p o) :=
  .upd (fun _ e => by rw [h] at e; cases e) (fun b u e => by rw [h] at e; cases e)
theorem Le.inst {K : PySem.W.Frag} {H : Hp} {p C dx : Addr} {fs : List (Str × V)} {o : HO} (h : H p = some (.ins C dx fs)) : Le K H (L2.upd H p o) :=
  .upd (fun _ e => by rw [h] at e; cases e) (fun b u e => by rw [h] at e; cases e)

def ScrAt (K : PySem.W.Frag) (H : Hp) (a : Addr) (ns : List Int) : Prop := SqL K H a (ns.map V.int) ∧ ∀ H', Le0 K H H' → SqL K H' a (ns.map V.int)
theorem ScrAt.mono {K : PySem.W.Frag} {H H' : Hp} {a : Addr} {ns : List Int} (l : Le0 K H H') (h : ScrAt K H a ns) : ScrAt K H' a ns := ⟨h.2 _ l, fun _ l' => h.2 _ (l.trans l')⟩
theorem ScrAt.of {K : PySem.W.Frag} {H : Hp} {a : Addr} {ns : List Int} (o : Only H) (h : SqL K H a (ns.map V.int)) : ScrAt K H a ns := by
  refine ⟨h, fun H' l => ?_⟩
  rcases h with (h | ⟨b, h⟩) | h
  · rcases o a with z | ⟨b, xs, z⟩
    · rw [h] at z; cases z
    · rw [h] at z; cases z
  · exact .inl (.inr ⟨b, l.frz _ _ _ h⟩)
  · exact .inr h

mutual
inductive SimV (K : PySem.W.Frag) (H : Hp) : AV → V → Prop
  | non : SimV K H .non .non
  | bl (b : Bool) : SimV K H (.bl b) (.bl b)
  | int (i : Int) : SimV K H (.int i) (.int i)
  | str (x : Str) : SimV K H (.str x) (.str x)
  | tup {a : Addr} {xs : List AV} {ws : List V} : SqT K H a ws → SimVs K H xs ws → SimV K H (.tup xs) (.ref a)
  | ref (a : Addr) : SimV K H (.ref a) (.ref a)
  | ty (n : String) : SimV K H (.ty n) (.ty n)
  | scr {a : Addr} {ns : List Int} : ScrAt K H a ns → SimV K H (.scr ns) (.ref a)
inductive SimVs (K : PySem.W.Frag) (H : Hp) : List AV → List V → Prop
  | nil : SimVs K H [] []
  | cons {x : AV} {xs : List AV} {v : V} {vs : List V} : SimV K H x v → SimVs K H xs vs → SimVs K H (x :: xs) (v :: vs)
end
section
variable {K : PySem.W.Frag} {H H' : Hp}
mutual
theorem SimV.mono0 (l : Le0 K H H') : ∀ {x : AV} {v : V}, SimV K H x v → SimV K H' x v
  | _, _, .non => .non
  | _, _, .bl b => .bl b
  | _, _, .int i => .int i
  | _, _, .str x => .str x
  | _, _, .tup h hs => .tup (l.tup _ _ h) (SimVs.mono0 l hs)
  | _, _, .ref a => .ref a
  | _, _, .ty n => .ty n
  | _, _, .scr h => .scr (h.mono l)
theorem SimVs.mono0 (l : Le0 K H H') : ∀ {xs : List AV} {vs : List V}, SimVs K H xs vs → SimVs K H' xs vs
  | _, _, .nil => .nil
  | _, _, .cons h hs => .cons (SimV.mono0 l h) (SimVs.mono0 l hs)
end
theorem SimV.mono (l : Le K H H') {x : AV} {v : V} (h : SimV K H x v) : SimV K H' x v := h.mono0 l.toLe0
theorem SimVs.mono (l : Le K H H') {xs : List AV} {vs : List V} (h : SimVs K H xs vs) : SimVs K H' xs vs := h.mono0 l.toLe0
theorem SimVs.length : ∀ {xs : List AV} {vs : List V}, SimVs K H xs vs → xs.length = vs.length
  | _, _, .nil => rfl
  | _, _, .cons _ hs => congrArg (· + 1) (SimVs.length hs)
theorem SimVs.get : ∀ {xs : List AV} {vs : List V} {i : Nat} {x : AV}, SimVs K H xs vs → xs[i]? = some x → ∃ v, vs[i]? = some v ∧ SimV K H x v
  | _, _, _, _, .nil, e => by simp at e
  | _, _, 0, _, .cons h _, e => by simp at e; subst e; exact ⟨_, rfl, h⟩
  | _, _, i + 1, x, .cons _ hs, e => by
    obtain ⟨v, h1, h2⟩ := SimVs.get (i := i) (x := x) hs (by simpa using e)
    exact ⟨v, by simpa using h1, h2⟩
theorem SimVs.append : ∀ {xs ys : List AV} {vs ws : List V}, SimVs K H xs vs → SimVs K H ys ws → SimVs K H (xs ++ ys) (vs ++ ws)
  | _, _, _, _, .nil, h => h
  | _, _, _, _, .cons h hs, h2 => .cons h (SimVs.append hs h2)
theorem SimVs.take : ∀ {xs : List AV} {vs : List V} (n : Nat), SimVs K H xs vs → SimVs K H (xs.take n) (vs.take n)
  | _, _, 0, _ => .nil
  | _, _, _ + 1, .nil => .nil
  | _, _, n + 1, .cons h hs => .cons h (SimVs.take n hs)
theorem SimVs.drop : ∀ {xs : List AV} {vs : List V} (n : Nat), SimVs K H xs vs → SimVs K H (xs.drop n) (vs.drop n)
  | _, _, 0, h => h
  | _, _, _ + 1, .nil => .nil
  | _, _, n + 1, .cons _ hs => SimVs.drop n hs
theorem SimVs.set {x : AV} {v : V} (h : SimV K H x v) : ∀ {xs : List AV} {vs : List V} (i : Nat), SimVs K H xs vs → SimVs K H (xs.set i x) (vs.set i v)
  | _, _, _, .nil => .nil
  | _, _, 0, .cons _ hs => .cons h hs
  | _, _, i + 1, .cons h2 hs => .cons h2 (SimVs.set h i hs)
theorem SimVs.erase : ∀ {xs : List AV} {vs : List V} (i : Nat), SimVs K H xs vs → SimVs K H (xs.eraseIdx i) (vs.eraseIdx i)
  | _, _, _, .nil => .nil
  | _, _, 0, .cons _ hs => hs
  | _, _, i + 1, .cons h hs => .cons h (SimVs.erase i hs)
theorem SimVs.reverse : ∀ {xs : List AV} {vs : List V}, SimVs K H xs vs → SimVs K H xs.reverse vs.reverse
  | _, _, .nil => .nil
  | _, _, .cons h hs => by
    rw [List.reverse_cons, List.reverse_cons]
    exact (SimVs.reverse hs).append (.cons h .nil)
theorem SimVs.ints : ∀ {ns : List Int} {vs : List V}, SimVs K H (ns.map AV.int) vs → vs = ns.map V.int
  | [], _, h => by cases h; rfl
  | n :: ns, _, h => by
    cases h with
    | cons h1 h2 => cases h1; rw [SimVs.ints h2]; rfl
theorem SimVs.of_ints : ∀ {ns : List Int}, SimVs K H (ns.map AV.int) (ns.map V.int)
  | [] => .nil
  | n :: _ => .cons (.int n) SimVs.of_ints
theorem SimVs.strs : ∀ {ns : List Str} {vs : List V}, SimVs K H (ns.map AV.str) vs → vs = ns.map V.str
  | [], _, h => by cases h; rfl
  | n :: ns, _, h => by
    cases h with
    | cons h1 h2 => cases h1; rw [SimVs.strs h2]; rfl
theorem SimVs.bls : ∀ {ns : List Bool} {vs : List V}, SimVs K H (ns.map AV.bl) vs → vs = ns.map V.bl
  | [], _, h => by cases h; rfl
  | n :: ns, _, h => by
    cases h with
    | cons h1 h2 => cases h1; rw [SimVs.bls h2]; rfl
end

abbrev SimK (K : PySem.W.Frag) (H : Hp) : List (Key × AV) → List (Key × V) → Prop := Paired fun (p : Key × AV) (q : Key × V) => p.1 = q.1 ∧ SimV K H p.2 q.2
abbrev SimF (K : PySem.W.Frag) (H : Hp) : List (Str × AV) → List (Str × V) → Prop := Paired fun (p : Str × AV) (q : Str × V) => p.1 = q.1 ∧ SimV K H p.2 q.2
theorem SimK.mono0 {α : Type} {K : PySem.W.Frag} {H H' : Hp} (l : Le0 K H H') {xs : List (α × AV)} {vs : List (α × V)} (h : Paired (fun (p : α × AV) (q : α × V) => p.1 = q.1 ∧ SimV K H p.2 q.2) xs vs) :
    Paired (fun (p : α × AV) (q : α × V) => p.1 = q.1 ∧ SimV K H' p.2 q.2) xs vs := Paired.mapP h fun _ _ z => ⟨z.1, z.2.mono0 l⟩
theorem SimK.mono {α : Type} {K : PySem.W.Frag} {H H' : Hp} (l : Le K H H') {xs : List (α × AV)} {vs : List (α × V)} (h : Paired (fun (p : α × AV) (q : α × V) => p.1 = q.1 ∧ SimV K H p.2 q.2) xs vs) :
    Paired (fun (p : α × AV) (q : α × V) => p.1 = q.1 ∧ SimV K H' p.2 q.2) xs vs := SimK.mono0 l.toLe0 h

structure DeckAt (H : Hp) (d c : Addr) : Prop where
  ex : ∃ (ns : List Int) (z n : Int), H d = some (.lst [.ref c, .int z, .int n]) ∧ H c = some (.lst (ns.map V.int)) ∧ ns.length ≤ 63 ∧ 0 ≤ z ∧ z < 2 ^ 32 ∧ 0 ≤ n

def SimO (K : PySem.W.Frag) (H : Hp) (m : AHp) (a : Addr) : AO → Prop
  | .lst xs => ∃ ws, H a = some (.lst ws) ∧ SimVs K H xs ws
  | .dK kvs => ∃ ws, H a = some (.dK ws) ∧ SimK K H kvs ws
  | .ins C fs => ∃ dx ws, H a = some (.ins C dx ws) ∧ SimF K H fs ws
  | .deck c => m c = some (.hid a) ∧ DeckAt H a c
  | .hid _ => ∃ o, H a = some o
  | .lkd kvs => ∃ od ws, H a = some (.frz od (.dK ws)) ∧ SimK K H kvs ws
def SimH (K : PySem.W.Frag) (H : Hp) (m : AHp) : Prop := ∀ a o, m a = some o → SimO K H m a o
abbrev St := L2.St
abbrev ASt := List (Option AV)
structure SimS (K : PySem.W.Frag) (H : Hp) (t : ASt) (σ : L2.St) : Prop where
  len : t.length = σ.length
  get : ∀ (i : Nat) (x : AV), t[i]? = some (some x) → ∃ v, σ[i]? = some (some v) ∧ SimV K H x v
section
variable {K : PySem.W.Frag} {H H' : Hp} {m m' : AHp} {t : ASt} {σ : L2.St} {a p : Addr}
theorem SimS.mono0 (l : Le0 K H H') (h : SimS K H t σ) : SimS K H' t σ := ⟨h.len, fun i x e => let ⟨v, h1, h2⟩ := h.get i x e; ⟨v, h1, h2.mono0 l⟩⟩
theorem SimS.mono (l : Le K H H') (h : SimS K H t σ) : SimS K H' t σ := h.mono0 l.toLe0
theorem SimH.there (h : SimH K H m) {o : AO} (e : m a = some o) : ∃ u, H a = some u := by
  have q := h a o e
  cases o with
  | lst xs => obtain ⟨ws, q, _⟩ := q; exact ⟨_, q⟩
  | dK kvs => obtain ⟨ws, q, _⟩ := q; exact ⟨_, q⟩
  | ins C fs => obtain ⟨dx, ws, q, _⟩ := q; exact ⟨_, q⟩
  | deck c => obtain ⟨_, ⟨ns, z, n, q, _⟩⟩ := q; exact ⟨_, q⟩
  | hid b => exact q
  | lkd kvs => obtain ⟨od, ws, q, _⟩ := q; exact ⟨_, q⟩
theorem SimH.free (h : SimH K H m) (e : H a = none) : m a = none := by
  cases q : m a with
  | none => rfl
  | some o =>
    obtain ⟨u, z⟩ := h.there q
    rw [e] at z; cases z
theorem SimH.put0 (h : SimH K H m) (l : Le0 K H H') (k : ∀ b u, b ≠ a → H b = some u → H' b = some u) (o : AO) (nh : ∀ b, m a ≠ some (.hid b)) (new : SimO K H' (updA m a o) a o) : SimH K H' (updA m a o) := by
  intro b u e
  by_cases hb : b = a
  · subst hb
    rw [updA_same] at e
    cases e
    exact new
  · rw [updA_ne hb] at e
    have q := h b u e
    cases u with
    | lst xs => obtain ⟨ws, q1, q2⟩ := q; exact ⟨ws, k _ _ hb q1, q2.mono0 l⟩
    | dK kvs => obtain ⟨ws, q1, q2⟩ := q; exact ⟨ws, k _ _ hb q1, SimK.mono0 l q2⟩
    | ins C fs => obtain ⟨dx, ws, q1, q2⟩ := q; exact ⟨dx, ws, k _ _ hb q1, SimK.mono0 l q2⟩
    | deck c =>
      obtain ⟨q0, ⟨ns, z, n, q1, q2, q3⟩⟩ := q
      have hc : c ≠ a := fun z => nh b (z ▸ q0)
      exact ⟨by rw [updA_ne hc]; exact q0, ⟨ns, z, n, k _ _ hb q1, k _ _ hc q2, q3⟩⟩
    | hid d => obtain ⟨u, q⟩ := q; exact ⟨u, k _ _ hb q⟩
    | lkd kvs => obtain ⟨od, ws, q1, q2⟩ := q; exact ⟨od, ws, k _ _ hb q1, SimK.mono0 l q2⟩
theorem SimH.put (h : SimH K H m) (l : Le K H H') (k : ∀ b u, b ≠ a → H b = some u → H' b = some u) (o : AO) (nh : ∀ b, m a ≠ some (.hid b)) (new : SimO K H' (updA m a o) a o) : SimH K H' (updA m a o) := h.put0 l.toLe0 k o nh new
theorem SimH.new (h : SimH K H m) (hp : H p = none) {u : HO} {o : AO} (new : SimO K (L2.upd H p u) (updA m p o) p o) : SimH K (L2.upd H p u) (updA m p o) :=
  h.put (.new hp) (fun b v hb e => by rw [upd_ne hb]; exact e) o (fun b e => by rw [h.free hp] at e; cases e) new
theorem SimH.more (h : SimH K H m) (hp : H p = none) {u : HO} : SimH K (L2.upd H p u) m := by
  have l : Le K H (L2.upd H p u) := .new hp
  have k : ∀ b v, H b = some v → L2.upd H p u b = some v := fun b v e => by rw [upd_ne (ne_of_none e hp)]; exact e
  intro b o e
  have q := h b o e
  cases o with
  | lst xs => obtain ⟨ws, q1, q2⟩ := q; exact ⟨ws, k _ _ q1, q2.mono l⟩
  | dK kvs => obtain ⟨ws, q1, q2⟩ := q; exact ⟨ws, k _ _ q1, SimK.mono l q2⟩
  | ins C fs => obtain ⟨dx, ws, q1, q2⟩ := q; exact ⟨dx, ws, k _ _ q1, SimK.mono l q2⟩
  | deck c => obtain ⟨q0, ⟨ns, z, n, q1, q2, q3⟩⟩ := q; exact ⟨q0, ⟨ns, z, n, k _ _ q1, k _ _ q2, q3⟩⟩
  | hid d => obtain ⟨v, q⟩ := q; exact ⟨v, k _ _ q⟩
  | lkd kvs => obtain ⟨od, ws, q1, q2⟩ := q; exact ⟨od, ws, k _ _ q1, SimK.mono l q2⟩
def Sub (m m' : AHp) : Prop := ∀ a o, m a = some o → m' a = some o
def Own (m : AHp) : Prop := ∀ a c, m a = some (.deck c) → m c = some (.hid a)
theorem SimH.own (h : SimH K H m) : Own m := fun a c e => (h a _ e).1
theorem SimH.sub (h : SimH K H m') (s : Sub m m') (own : Own m) : SimH K H m := by
  intro b o e
  have q := h b o (s b o e)
  cases o with
  | deck c => exact ⟨own b c e, q.2⟩
  | _ => exact q
end
end Ab

namespace Ab
open PySem PySem.Spec PyProof.Rows L2

abbrev AK := AV → AHp → Prop
abbrev ATE := ASt → AHp → AK → Prop
abbrev ATT := ASt → AHp → (Bool → AHp → Prop) → Prop
abbrev ATA := ASt → AHp → (List AV → AHp → Prop) → Prop
structure AEnds where
  nx : ASt → AHp → Prop
  rt : AK
  bk : ASt → AHp → Prop := fun _ _ => False
  ct : ASt → AHp → Prop := fun _ _ => False
abbrev ATS := AEnds → ASt → AHp → Prop

theorem peI {X : Cx} {e : Expr} {t u : TE} (h : PE X e t) (i : ∀ σ H Q, u σ H Q → t σ H Q) : PE X e u := ⟨fun pins s σ H Q I q => h.run pins s σ H Q I (i σ H Q q)⟩
theorem ptI {X : Cx} {e : Expr} {t u : TT} (h : PT X e t) (i : ∀ σ H Q, u σ H Q → t σ H Q) : PT X e u := ⟨fun pins s σ H Q I q => h.run pins s σ H Q I (i σ H Q q)⟩
theorem pwI {X : Cx} {e : Expr} {t u : TT} (h : PW X e t) (i : ∀ σ H Q, u σ H Q → t σ H Q) : PW X e u := ⟨fun wh pins s σ H Q I q => h.run wh pins s σ H Q I (i σ H Q q)⟩
theorem paI {X : Cx} {e : List Expr} {t u : TA} (h : PA X e t) (i : ∀ σ H Q, u σ H Q → t σ H Q) : PA X e u := ⟨fun pos pins s σ H Q I q => h.run pos pins s σ H Q I (i σ H Q q)⟩
theorem psI {X : Cx} {e : Stmt} {t u : TS} (h : PS X e t) (i : ∀ D σ H, u D σ H → t D σ H) : PS X e u := ⟨fun pins s σ H D I q => h.run pins s σ H D I (i D σ H q)⟩
theorem pssI {X : Cx} {e : List Stmt} {t u : TS} (h : PSs X e t) (i : ∀ D σ H, u D σ H → t D σ H) : PSs X e u := ⟨fun pins s σ H D I q => h.run pins s σ H D I (i D σ H q)⟩

section
variable (K : PySem.W.Frag) (H : Hp)
def KE (q : AK) (Q : VK) : Prop := ∀ x m v H', Le K H H' → SimH K H' m → SimV K H' x v → q x m → Q v H'
def KT (q : Bool → AHp → Prop) (Q : Bool → Hp → Prop) : Prop := ∀ b m H', Le K H H' → SimH K H' m → q b m → Q b H'
def KA (q : List AV → AHp → Prop) (Q : List V → Hp → Prop) : Prop := ∀ xs m vs H', Le K H H' → SimH K H' m → SimVs K H' xs vs → q xs m → Q vs H'
def KS (q : ASt → AHp → Prop) (Q : L2.St → Hp → Prop) : Prop := ∀ t m σ H', Le K H H' → SimS K H' t σ → SimH K H' m → q t m → Q σ H'
structure KD (d : AEnds) (D : Ends) : Prop where
  nx : KS K H d.nx D.nx
  rt : KE K H d.rt D.rt
  bk : KS K H d.bk D.bk
  ct : KS K H d.ct D.ct
end
section
variable {K : PySem.W.Frag} {H H1 : Hp}
theorem KE.mono {q : AK} {Q : VK} (l : Le K H H1) (h : KE K H q Q) : KE K H1 q Q := fun x m v H' l' => h x m v H' (l.trans l')
theorem KT.mono {q : Bool → AHp → Prop} {Q : Bool → Hp → Prop} (l : Le K H H1) (h : KT K H q Q) : KT K H1 q Q := fun x m H' l' => h x m H' (l.trans l')
theorem KA.mono {q : List AV → AHp → Prop} {Q : List V → Hp → Prop} (l : Le K H H1) (h : KA K H q Q) : KA K H1 q Q := fun x m v H' l' => h x m v H' (l.trans l')
theorem KS.mono {q : ASt → AHp → Prop} {Q : L2.St → Hp → Prop} (l : Le K H H1) (h : KS K H q Q) : KS K H1 q Q := fun x m v H' l' => h x m v H' (l.trans l')
theorem KD.mono {d : AEnds} {D : Ends} (l : Le K H H1) (h : KD K H d D) : KD K H1 d D := ⟨h.nx.mono l, h.rt.mono l, h.bk.mono l, h.ct.mono l⟩
end

def clE (K : PySem.W.Frag) (t : ATE) : TE := fun σ H Q => ∃ a m q, SimS K H a σ ∧ SimH K H m ∧ t a m q ∧ KE K H q Q
def clT (K : PySem.W.Frag) (t : ATT) : TT := fun σ H Q => ∃ a m q, SimS K H a σ ∧ SimH K H m ∧ t a m q ∧ KT K H q Q
def clA (K : PySem.W.Frag) (t : ATA) : TA := fun σ H Q => ∃ a m q, SimS K H a σ ∧ SimH K H m ∧ t a m q ∧ KA K H q Q
def clS (K : PySem.W.Frag) (t : ATS) : TS := fun D σ H => ∃ a m d, SimS K H a σ ∧ SimH K H m ∧ t d a m ∧ KD K H d D
abbrev AE (X : Cx) (e : Expr) (t : ATE) : Prop := PE X e (clE X.K t)
abbrev AT (X : Cx) (e : Expr) (t : ATT) : Prop := PT X e (clT X.K t)
abbrev AW (X : Cx) (e : Expr) (t : ATT) : Prop := PW X e (clT X.K t)
abbrev AA (X : Cx) (e : List Expr) (t : ATA) : Prop := PA X e (clA X.K t)
abbrev AS (X : Cx) (e : Stmt) (t : ATS) : Prop := PS X e (clS X.K t)
abbrev ASs (X : Cx) (e : List Stmt) (t : ATS) : Prop := PSs X e (clS X.K t)

def slot : ASt → Nat → Option AV
  | [], _ => none
  | x :: _, 0 => x
  | _ :: r, n + 1 => slot r n
def put : ASt → Nat → AV → ASt
  | [], _, _ => []
  | _ :: r, 0, v => some v :: r
  | x :: r, n + 1, v => x :: put r n v
theorem slot_get : ∀ {t : ASt} {i : Nat} {v : AV}, slot t i = some v → t[i]? = some (some v)
  | [], _, _, h => by cases h
  | x :: _, 0, v, h => congrArg some (show x = some v from h)
  | _ :: r, n + 1, v, h => by
    have := slot_get (t := r) (i := n) (v := v) h
    simpa using this
theorem put_eq : ∀ (t : ASt) (i : Nat) (v : AV), put t i v = t.set i (some v)
  | [], _, _ => rfl
  | _ :: r, 0, v => rfl
  | x :: r, n + 1, v => by
    show x :: put r n v = x :: r.set n (some v)
    rw [put_eq r n v]
theorem SimS.put {K : PySem.W.Frag} {H : Hp} {t : ASt} {σ : L2.St} {x : AV} {v : V} (h : SimS K H t σ) (r : SimV K H x v) (i : Nat) : SimS K H (Ab.put t i x) (σ.set i (some v)) := by
  rw [put_eq]
  refine ⟨by simpa using h.len, fun j y e => ?_⟩
  by_cases hj : i = j
  · subst hj
    have hl : i < t.length := by
      have := (List.getElem?_eq_some_iff.mp e).1
      simpa using this
    rw [List.getElem?_set_self hl] at e
    cases e
    exact ⟨v, List.getElem?_set_self (by rw [← h.len]; exact hl), r⟩
  · rw [List.getElem?_set_ne hj] at e
    obtain ⟨u, h1, h2⟩ := h.get j y e
    exact ⟨u, by rw [List.getElem?_set_ne hj]; exact h1, h2⟩

def aVar (i : Nat) : ATE := fun a m q => match slot a i with
  | some v => q v m
  | none => False
def aC (x : AV) : ATE := fun _ m q => q x m
section
variable {X : Cx} {pos : Pos}
theorem ae_of {e : Expr} {t : TE} {u : ATE} (h : PE X e t) (i : ∀ a m q σ H Q, SimS X.K H a σ → SimH X.K H m → u a m q → KE X.K H q Q → t σ H Q) : AE X e u :=
  peI h fun σ H Q ⟨a, m, q, h1, h2, h3, h4⟩ => i a m q σ H Q h1 h2 h3 h4
theorem ae_var {i : Nat} {x : Str} (h : PE X (.Name x pos) (tVar i)) : AE X (.Name x pos) (aVar i) := ae_of h fun a m q σ H Q h1 h2 h3 h4 => by
  unfold aVar at h3
  cases e : slot a i with
  | none => rw [e] at h3; exact h3.elim
  | some v =>
    rw [e] at h3
    obtain ⟨w, g1, g2⟩ := h1.get i v (slot_get e)
    exact ⟨w, g1, h4 v m w H .refl h2 g2 h3⟩
theorem ae_c {e : Expr} {v : V} {x : AV} (h : PE X e (tC v)) (r : ∀ H, SimV X.K H x v) : AE X e (aC x) := ae_of h fun a m q σ H Q h1 h2 h3 h4 => h4 x m v H .refl h2 (r H) h3
theorem ae_int {i : Int} {j} : AE X (.Constant (.int i) j pos) (aC (.int i)) := ae_c pe_int fun _ => .int i
theorem ae_str {x : Str} {j} : AE X (.Constant (.str x) j pos) (aC (.str x)) := ae_c pe_str fun _ => .str x
theorem ae_bl {x : Bool} {j} : AE X (.Constant (.bool x) j pos) (aC (.bl x)) := ae_c pe_bl fun _ => .bl x
theorem ae_non {j} : AE X (.Constant .none j pos) (aC .non) := ae_c pe_non fun _ => .non

abbrev AR2 := AV → AV → AHp → AK → Prop
def cl2 (K : PySem.W.Frag) (r : AR2) : R2 := fun v w H Q => ∃ x y m q, SimV K H x v ∧ SimV K H y w ∧ SimH K H m ∧ r x y m q ∧ KE K H q Q
def cl1 (K : PySem.W.Frag) (r : AV → AHp → AK → Prop) : V → Hp → VK → Prop := fun v H Q => ∃ x m q, SimV K H x v ∧ SimH K H m ∧ r x m q ∧ KE K H q Q
def clL (K : PySem.W.Frag) (r : List AV → AHp → AK → Prop) : List V → Hp → VK → Prop := fun vs H Q => ∃ xs m q, SimVs K H xs vs ∧ SimH K H m ∧ r xs m q ∧ KE K H q Q
def clM (K : PySem.W.Frag) (r : AV → List AV → AHp → AK → Prop) : V → List V → Hp → VK → Prop := fun v vs H Q => ∃ x xs m q, SimV K H x v ∧ SimVs K H xs vs ∧ SimH K H m ∧ r x xs m q ∧ KE K H q Q
variable {a b c : Expr} {ta tb tc : ATE} {es : List Expr} {tes : ATA}
def aOp (r : AR2) (ta tb : ATE) : ATE := fun t m q => ta t m fun x m1 => tb t m1 fun y m2 => r x y m2 q
theorem bin2 {K : PySem.W.Frag} {r : AR2} {σ : L2.St} {H : Hp} {Q : VK} : clE K (aOp r ta tb) σ H Q → tOp (cl2 K r) (clE K ta) (clE K tb) σ H Q := fun ⟨t, m, q, h1, h2, h3, h4⟩ =>
  ⟨t, m, _, h1, h2, h3, fun x m1 v H1 l1 g1 r1 q1 => ⟨t, m1, _, h1.mono l1, g1, q1, fun y m2 w H2 l2 g2 r2 q2 => ⟨x, y, m2, q, r1.mono l2, r2, g2, q2, h4.mono (l1.trans l2)⟩⟩⟩
theorem ae_op {op : Operator} {r : AR2} (ho : OpR X (binaryOp op) (cl2 X.K r)) (ha : AE X a ta) (hb : AE X b tb) : AE X (.BinOp a op b pos) (aOp r ta tb) := peI (pe_op ho ha hb) fun _ _ _ h => bin2 h
theorem ae_cmp {op : CmpOp} {r : AR2} (ho : OpR X (compareOp op) (cl2 X.K r)) (ha : AE X a ta) (hb : AE X b tb) (hm : behindInMarks op b = false) : AE X (.Compare a [op] [b] pos) (aOp r ta tb) := peI (pe_cmpR ho ha hb hm) fun _ _ _ h => bin2 h
def aUn (r : AV → AHp → AK → Prop) (ta : ATE) : ATE := fun t m q => ta t m fun x m1 => r x m1 q
theorem ae_un {op : UnaryOp} {r : AV → AHp → AK → Prop} (ho : UnR X (unaryOp op) (cl1 X.K r)) (ha : AE X a ta) : AE X (.UnaryOp op a pos) (aUn r ta) := peI (pe_un ho ha) fun _ _ _ ⟨t, m, q, h1, h2, h3, h4⟩ =>
  ⟨t, m, _, h1, h2, h3, fun x m1 v H1 l1 g1 r1 q1 => ⟨x, m1, q, r1, g1, q1, h4.mono l1⟩⟩
def aTest (t : ATE) : ATT := fun a m q => t a m fun x m1 => match x with
  | .bl b => q b m1
  | _ => False
theorem test_of {K : PySem.W.Frag} {t : ATE} {u : TE} {σ : L2.St} {H : Hp} {Q : Bool → Hp → Prop} (h : clT K (aTest t) σ H Q) (i : ∀ Q', clE K t σ H Q' → u σ H Q') : u σ H fun x H' => ∃ k, x = .bl k ∧ Q k H' := by
  obtain ⟨a, m, q, h1, h2, h3, h4⟩ := h
  refine i _ ⟨a, m, _, h1, h2, h3, fun x m1 v H1 l1 g1 r1 q1 => ?_⟩
  cases x with
  | bl b => cases r1; exact ⟨b, rfl, h4 b m1 H1 l1 g1 q1⟩
  | _ => exact q1.elim
theorem at_cmp {op : CmpOp} {r : AR2} (ho : OpR X (compareOp op) (cl2 X.K r)) (ha : AE X a ta) (hb : AE X b tb) (hm : behindInMarks op b = false) : AT X (.Compare a [op] [b] pos) (aTest (aOp r ta tb)) :=
  ptI (pt_cmpR ho ha hb hm) fun _ _ _ h => test_of h fun _ z => bin2 z
theorem at_val {t : ATE} (h : AE X a t) (he : ∀ whole, isTrue a X.env whole = (do let v ← whole; standAt a.pos; holding [v] (truthy v)) := by intro _; rfl) : AT X a (aTest t) :=
  ptI (pt_val h he) fun _ _ _ q => test_of q fun _ z => z
def aChain (r r' : AR2) (ta tb tc : ATE) : ATE := fun t m q => ta t m fun x m1 => tb t m1 fun y m2 => r x y m2 fun z m3 => match z with
  | .bl true => tc t m3 fun w m4 => r' y w m4 q
  | .bl false => q (.bl false) m3
  | _ => False
theorem chain_of {K : PySem.W.Frag} {r r' : AR2} {σ : L2.St} {H : Hp} {Q : VK} : clE K (aChain r r' ta tb tc) σ H Q → tChain (cl2 K r) (cl2 K r') (clE K ta) (clE K tb) (clE K tc) σ H Q := fun ⟨t, m, q, h1, h2, h3, h4⟩ => by
  refine ⟨t, m, _, h1, h2, h3, fun x m1 v H1 l1 g1 r1 q1 => ⟨t, m1, _, h1.mono l1, g1, q1, fun y m2 w H2 l2 g2 r2 q2 => ⟨x, y, m2, _, r1.mono l2, r2, g2, q2, fun z m3 u H3 l3 g3 r3 q3 => ?_⟩⟩⟩
  cases z with
  | bl k =>
    cases r3
    refine ⟨k, rfl, ?_⟩
    cases k with
    | true =>
      rw [if_pos rfl]
      exact ⟨t, m3, _, h1.mono (l1.trans (l2.trans l3)), g3, q3, fun w' m4 v4 H4 l4 g4 r4 q4 => ⟨y, w', m4, q, r2.mono (l3.trans l4), r4, g4, q4, h4.mono (l1.trans (l2.trans (l3.trans l4)))⟩⟩
    | false =>
      rw [if_neg Bool.false_ne_true]
      exact h4 _ m3 _ H3 (l1.trans (l2.trans l3)) g3 (.bl false) q3
  | _ => exact q3.elim
theorem ae_chain {op op' : CmpOp} {r r' : AR2} (ho : OpR X (compareOp op) (cl2 X.K r)) (ho' : OpR X (compareOp op') (cl2 X.K r')) (ha : AE X a ta) (hb : AE X b tb) (hc : AE X c tc)
    (hm : lastMarks [op, op'] [b, c] = false := by with_unfolding_all rfl) : AE X (.Compare a [op, op'] [b, c] pos) (aChain r r' ta tb tc) := peI (pe_chain ho ho' ha hb hc hm) fun _ _ _ h => chain_of h
theorem at_chain {op op' : CmpOp} {r r' : AR2} (ho : OpR X (compareOp op) (cl2 X.K r)) (ho' : OpR X (compareOp op') (cl2 X.K r')) (ha : AE X a ta) (hb : AE X b tb) (hc : AE X c tc)
    (hm : lastMarks [op, op'] [b, c] = false := by with_unfolding_all rfl) : AT X (.Compare a [op, op'] [b, c] pos) (aTest (aChain r r' ta tb tc)) := ptI (pt_chain ho ho' ha hb hc hm) fun _ _ _ h => test_of h fun _ z => chain_of z

variable {tA tB : ATT} {rest : List Expr}
def aAnd (t u : ATT) : ATT := fun a m q => t a m fun c m1 => if c = true then u a m1 q else q false m1
def aOr (t u : ATT) : ATT := fun a m q => t a m fun c m1 => if c = true then q true m1 else u a m1 q
def aNot (t : ATT) : ATT := fun a m q => t a m fun c m1 => q (!c) m1
theorem two_of {K : PySem.W.Frag} {σ : L2.St} {H : Hp} {Q : Bool → Hp → Prop} : clT K (aAnd tA tB) σ H Q → tAnd (clT K tA) (clT K tB) σ H Q := fun ⟨t, m, q, h1, h2, h3, h4⟩ => by
  refine ⟨t, m, _, h1, h2, h3, fun c m1 H1 l1 g1 q1 => ?_⟩
  cases c with
  | true => exact ⟨t, m1, q, h1.mono l1, g1, q1, h4.mono l1⟩
  | false => exact h4 _ _ _ l1 g1 q1
theorem one_of {K : PySem.W.Frag} {σ : L2.St} {H : Hp} {Q : Bool → Hp → Prop} : clT K (aOr tA tB) σ H Q → tOr (clT K tA) (clT K tB) σ H Q := fun ⟨t, m, q, h1, h2, h3, h4⟩ => by
  refine ⟨t, m, _, h1, h2, h3, fun c m1 H1 l1 g1 q1 => ?_⟩
  cases c with
  | true => exact h4 _ _ _ l1 g1 q1
  | false => exact ⟨t, m1, q, h1.mono l1, g1, q1, h4.mono l1⟩
theorem aw_and1 (ha : AT X a tA) : AW X (.BoolOp .And [a] pos) tA := pw_and1 ha
theorem aw_or1 (ha : AT X a tA) : AW X (.BoolOp .Or [a] pos) tA := pw_or1 ha
theorem aw_and (ha : AT X a tA) (hb : AW X (.BoolOp .And (b :: rest) pos) tB) : AW X (.BoolOp .And (a :: b :: rest) pos) (aAnd tA tB) := pwI (pw_and ha hb) fun _ _ _ h => two_of h
theorem aw_or (ha : AT X a tA) (hb : AW X (.BoolOp .Or (b :: rest) pos) tB) : AW X (.BoolOp .Or (a :: b :: rest) pos) (aOr tA tB) := pwI (pw_or ha hb) fun _ _ _ h => one_of h
theorem at_w (h : AW X a tA) : AT X a tA := h.pt
theorem at_not (ha : AT X a tA) : AT X (.UnaryOp .Not a pos) (aNot tA) := ptI (pt_not ha) fun _ _ _ ⟨t, m, q, h1, h2, h3, h4⟩ => ⟨t, m, _, h1, h2, h3, fun c m1 H1 l1 g1 q1 => h4 _ _ _ l1 g1 q1⟩
def aAndV (t u : ATE) : ATE := fun a m q => t a m fun x m1 => match x with
  | .bl true => u a m1 q
  | .bl false => q (.bl false) m1
  | _ => False
def aOrV (t u : ATE) : ATE := fun a m q => t a m fun x m1 => match x with
  | .bl true => q (.bl true) m1
  | .bl false => u a m1 q
  | _ => False
def aNotV (t : ATE) : ATE := fun a m q => t a m fun x m1 => match x with
  | .bl b => q (.bl (!b)) m1
  | _ => False
theorem ae_one {op} (h : AE X a ta) : AE X (.BoolOp op [a] pos) ta := pe_one h
theorem ae_and (ha : AE X a ta) (hb : AE X (.BoolOp .And (b :: rest) pos) tb) : AE X (.BoolOp .And (a :: b :: rest) pos) (aAndV ta tb) := peI (pe_and ha hb) fun _ _ _ ⟨t, m, q, h1, h2, h3, h4⟩ => by
  refine ⟨t, m, _, h1, h2, h3, fun x m1 v H1 l1 g1 r1 q1 => ?_⟩
  cases x with
  | bl c =>
    cases r1
    refine ⟨c, rfl, ?_⟩
    cases c with
    | true => exact ⟨t, m1, q, h1.mono l1, g1, q1, h4.mono l1⟩
    | false => exact h4 _ _ _ _ l1 g1 (.bl false) q1
  | _ => exact q1.elim
theorem ae_or (ha : AE X a ta) (hb : AE X (.BoolOp .Or (b :: rest) pos) tb) : AE X (.BoolOp .Or (a :: b :: rest) pos) (aOrV ta tb) := peI (pe_or ha hb) fun _ _ _ ⟨t, m, q, h1, h2, h3, h4⟩ => by
  refine ⟨t, m, _, h1, h2, h3, fun x m1 v H1 l1 g1 r1 q1 => ?_⟩
  cases x with
  | bl c =>
    cases r1
    refine ⟨c, rfl, ?_⟩
    cases c with
    | false => exact ⟨t, m1, q, h1.mono l1, g1, q1, h4.mono l1⟩
    | true => exact h4 _ _ _ _ l1 g1 (.bl true) q1
  | _ => exact q1.elim
theorem ae_not (ha : AE X a ta) : AE X (.UnaryOp .Not a pos) (aNotV ta) := peI (pe_not ha) fun _ _ _ ⟨t, m, q, h1, h2, h3, h4⟩ => by
  refine ⟨t, m, _, h1, h2, h3, fun x m1 v H1 l1 g1 r1 q1 => ?_⟩
  cases x with
  | bl c => cases r1; exact ⟨c, rfl, h4 _ _ _ _ l1 g1 (.bl (!c)) q1⟩
  | _ => exact q1.elim
def aIf (t : ATT) (ta tb : ATE) : ATE := fun a m q => t a m fun c m1 => if c = true then ta a m1 q else tb a m1 q
theorem ae_if (hc : AT X c tA) (ha : AE X a ta) (hb : AE X b tb) : AE X (.IfExp c a b pos) (aIf tA ta tb) := peI (pe_ifExp hc ha hb) fun _ _ _ ⟨t, m, q, h1, h2, h3, h4⟩ => by
  refine ⟨t, m, _, h1, h2, h3, fun c m1 H1 l1 g1 q1 => ?_⟩
  cases c with
  | true => exact ⟨t, m1, q, h1.mono l1, g1, q1, h4.mono l1⟩
  | false => exact ⟨t, m1, q, h1.mono l1, g1, q1, h4.mono l1⟩

def aNil : ATA := fun _ m q => q [] m
def aCons (ta : ATE) (tr : ATA) : ATA := fun t m q => ta t m fun x m1 => tr t m1 fun xs m2 => q (x :: xs) m2
theorem aa_nil : AA X [] aNil := paI pa_nil fun _ H _ ⟨t, m, q, h1, h2, h3, h4⟩ => h4 [] m [] H .refl h2 .nil h3
theorem aa_cons (ha : AE X a ta) (hr : AA X es tes) (hs : starEach (a :: es) X.env = (false, eval a X.env) :: starEach es X.env := by rfl) : AA X (a :: es) (aCons ta tes) := paI (pa_cons ha hr hs) fun _ _ _ ⟨t, m, q, h1, h2, h3, h4⟩ =>
  ⟨t, m, _, h1, h2, h3, fun x m1 v H1 l1 g1 r1 q1 => ⟨t, m1, _, h1.mono l1, g1, q1, fun xs m2 vs H2 l2 g2 r2 q2 => h4 _ _ _ _ (l1.trans l2) g2 (.cons (r1.mono l2) r2) q2⟩⟩
def aTup (t : ATA) : ATE := fun a m q => t a m fun xs m1 => xs.length ≤ sizeLine ∧ q (.tup xs) m1
def aLst (t : ATA) : ATE := fun a m q => t a m fun xs m1 => xs.length ≤ sizeLine ∧ ∀ p, m1 p = none → q (.ref p) (updA m1 p (.lst xs))
theorem sq_new {K : PySem.W.Frag} {H : Hp} {p : Addr} {vs : List V} : SqT K (upd H p (.tup vs)) p vs := SqT.of upd_same
theorem KE.newT {K : PySem.W.Frag} {H : Hp} {q : AK} {Q : VK} {m : AHp} {xs : List AV} {vs : List V} {p : Addr} (h : KE K H q Q) (g : SimH K H m) (r : SimVs K H xs vs) (hp : H p = none) (k : q (.tup xs) m) : Q (.ref p) (upd H p (.tup vs)) :=
  h _ m _ _ (.new hp) (g.more hp) (.tup sq_new (r.mono (.new hp))) k
theorem KE.newL {K : PySem.W.Frag} {H : Hp} {q : AK} {Q : VK} {m : AHp} {xs : List AV} {vs : List V} {p : Addr} (h : KE K H q Q) (g : SimH K H m) (r : SimVs K H xs vs) (hp : H p = none) (k : ∀ p, m p = none → q (.ref p) (updA m p (.lst xs))) : Q (.ref p) (upd H p (.lst vs)) :=
  h _ _ _ _ (.new hp) (g.new hp (o := .lst xs) ⟨vs, upd_same, r.mono (.new hp)⟩) (.ref p) (k p (g.free hp))
theorem ae_tup {x1} (h : AA X es tes) : AE X (.Tuple es x1 pos) (aTup tes) := peI (pe_tup h) fun _ _ _ ⟨t, m, q, h1, h2, h3, h4⟩ =>
  ⟨t, m, _, h1, h2, h3, fun xs m1 vs H1 l1 g1 r1 q1 => ⟨by rw [← r1.length]; exact q1.1, fun p hp => (h4.mono l1).newT g1 r1 hp q1.2⟩⟩
theorem ae_lst (h : AA X es tes) : AE X (.List es pos) (aLst tes) := peI (pe_lst h) fun _ _ _ ⟨t, m, q, h1, h2, h3, h4⟩ =>
  ⟨t, m, _, h1, h2, h3, fun xs m1 vs H1 l1 g1 r1 q1 => ⟨by rw [← r1.length]; exact q1.1, fun p hp => (h4.mono l1).newL g1 r1 hp q1.2⟩⟩

theorem ae_ix {r : AR2} (hr : IxR X (cl2 X.K r)) (ha : AE X a ta) (hb : AE X b tb) (hs : PlainIx b := by first | exact fun _ _ => rfl) : AE X (.Subscript a b pos) (aOp r ta tb) := peI (pe_ix hr ha hb hs) fun _ _ _ h => bin2 h
abbrev ATO := ASt → AHp → (Option Int → AHp → Prop) → Prop
def clO (K : PySem.W.Frag) (t : ATO) : TO := fun σ H Q => ∃ a m q, SimS K H a σ ∧ SimH K H m ∧ t a m q ∧ ∀ o m' H', Le K H H' → SimH K H' m' → q o m' → Q o H'
def aNoPart : ATO := fun _ m q => q none m
def aPart (t : ATE) : ATO := fun a m q => t a m fun x m1 => match x with
  | .int i => q (some i) m1
  | _ => False
theorem poI {e : Option Expr} {t u : TO} (h : PO X e t) (i : ∀ σ H Q, u σ H Q → t σ H Q) : PO X e u := ⟨fun pins s σ H Q I q => h.run pins s σ H Q I (i σ H Q q)⟩
theorem ao_none : PO X none (clO X.K aNoPart) := poI po_none fun _ H _ ⟨t, m, q, h1, h2, h3, h4⟩ => h4 none m H .refl h2 h3
theorem ao_some (h : AE X a ta) : PO X (some a) (clO X.K (aPart ta)) := poI (po_some h) fun _ _ _ ⟨t, m, q, h1, h2, h3, h4⟩ => by
  refine ⟨t, m, _, h1, h2, h3, fun x m1 v H1 l1 g1 r1 q1 => ?_⟩
  cases x with
  | int i => cases r1; exact ⟨i, rfl, h4 _ _ _ l1 g1 q1⟩
  | _ => exact q1.elim
abbrev ARS := AV → Option Int → Option Int → AHp → AK → Prop
def clSl (K : PySem.W.Frag) (r : ARS) : V → Option Int → Option Int → Hp → VK → Prop := fun v lo hi H Q => ∃ x m q, SimV K H x v ∧ SimH K H m ∧ r x lo hi m q ∧ KE K H q Q
def aSl (r : ARS) (te : ATE) (tl th : ATO) : ATE := fun a m q => te a m fun x m1 => tl a m1 fun l m2 => th a m2 fun u m3 => r x l u m3 q
theorem ae_slice {r : ARS} {lo hi : Option Expr} {tl th : ATO} {p2 : Pos} (hr : SlR X (clSl X.K r)) (he : AE X a ta) (hl : PO X lo (clO X.K tl)) (hh : PO X hi (clO X.K th)) : AE X (.Subscript a (.Slice lo hi none p2) pos) (aSl r ta tl th) :=
  peI (pe_slice hr he hl hh) fun _ _ _ ⟨t, m, q, h1, h2, h3, h4⟩ => ⟨t, m, _, h1, h2, h3, fun x m1 v H1 l1 g1 r1 q1 => ⟨t, m1, _, h1.mono l1, g1, q1, fun o m2 H2 l2 g2 q2 => ⟨t, m2, _, h1.mono (l1.trans l2), g2, q2, fun o' m3 H3 l3 g3 q3 =>
    ⟨x, m3, q, r1.mono (l2.trans l3), g3, q3, h4.mono (l1.trans (l2.trans l3))⟩⟩⟩⟩
def aCB (r : List AV → AHp → AK → Prop) (t : ATA) : ATE := fun a m q => t a m fun xs m1 => r xs m1 q
variable {x : Str} {p : Pos} {id T : String} {r : List AV → AHp → AK → Prop}
theorem cb_of {K : PySem.W.Frag} {σ : L2.St} {H : Hp} {Q : VK} : clE K (aCB r tes) σ H Q → tCB (clL K r) (clA K tes) σ H Q := fun ⟨t, m, q, h1, h2, h3, h4⟩ =>
  ⟨t, m, _, h1, h2, h3, fun xs m1 vs H1 l1 g1 r1 q1 => ⟨xs, m1, q, r1, g1, q1, h4.mono l1⟩⟩
theorem ae_callB (hc : CallR X (.builtin id) (clL X.K r)) (hg : Gl X x) (hm : X.mg x = none) (hv : bootBuiltins x = some (.builtin id)) (ha : AA X (a :: es) tes) (hn : x ≠ "__name__" := by decide) (hdb : (x == ("__debug__" : Str)) = false := by decide)
    (he : starEach (a :: es) X.env = (false, eval a X.env) :: starEach es X.env := by rfl) (hpl : (backTo pos (starEach es X.env)).any (·.1) = false := by rfl) : AE X (.Call (.Name x p) (a :: es) [] pos) (aCB r tes) := peI (pe_callB hc hg hm hv ha hn hdb he hpl) fun _ _ _ h => cb_of h
theorem ae_callTy (hc : CallR X (.type T) (clL X.K r)) (hg : Gl X x) (hm : X.mg x = none) (hv : bootBuiltins x = some (.type T)) (ha : AA X (a :: es) tes) (hn : x ≠ "__name__" := by decide) (hdb : (x == ("__debug__" : Str)) = false := by decide)
    (he : starEach (a :: es) X.env = (false, eval a X.env) :: starEach es X.env := by rfl) (hpl : (backTo pos (starEach es X.env)).any (·.1) = false := by rfl) : AE X (.Call (.Name x p) (a :: es) [] pos) (aCB r tes) := peI (pe_callTy hc hg hm hv ha hn hdb he hpl) fun _ _ _ h => cb_of h
def aBM (ty : AV → AHp → Prop) (r : AV → List AV → AHp → AK → Prop) (to : ATE) (t : ATA) : ATE := fun a m q => to a m fun x m1 => ty x m1 ∧ t a m1 fun xs m2 => r x xs m2 q
theorem ae_bm {name : Str} {apos cpos : Pos} {o : Expr} {to : ATE} {ty : AV → AHp → Prop} {rM : AV → List AV → AHp → AK → Prop} (pa : PlainAttrs T) (slot : Slot T name id) (hty : typeOf (.builtin id) = pure (.type "method_descriptor")) (hm : MtR X id (clM X.K rM))
    (hT : ∀ (y : AV) (v : V) (m : AHp) (H : Hp), SimH X.K H m → SimV X.K H y v → ty y m → tyV X.K T v H) (ho : AE X o to) (ha : AA X (a :: es) tes)
    (h : ∀ t u, PE X o t → PA X (a :: es) u → PE X (.Call (.Attribute o name apos) (a :: es) [] cpos) (tBM X.K T (clM X.K rM) t u)) : AE X (.Call (.Attribute o name apos) (a :: es) [] cpos) (aBM ty rM to tes) :=
  peI (h _ _ ho ha) fun _ _ _ ⟨t, m, q, h1, h2, h3, h4⟩ => ⟨t, m, _, h1, h2, h3, fun y m1 v H1 l1 g1 r1 q1 => ⟨hT _ _ _ _ g1 r1 q1.1, t, m1, _, h1.mono l1, g1, q1.2, fun xs m2 vs H2 l2 g2 r2 q2 => ⟨y, xs, m2, q, r1.mono l2, r2, g2, q2, h4.mono (l1.trans l2)⟩⟩⟩
theorem ae_bm0 {name : Str} {apos cpos : Pos} {o : Expr} {to : ATE} {ty : AV → AHp → Prop} {rM : AV → List AV → AHp → AK → Prop}
    (hT : ∀ (y : AV) (v : V) (m : AHp) (H : Hp), SimH X.K H m → SimV X.K H y v → ty y m → tyV X.K T v H) (ho : AE X o to)
    (h : ∀ t, PE X o t → PE X (.Call (.Attribute o name apos) [] [] cpos) (tBM0 X.K T (clM X.K rM) t)) : AE X (.Call (.Attribute o name apos) [] [] cpos) (aBM ty rM to aNil) :=
  peI (h _ ho) fun _ _ _ ⟨t, m, q, h1, h2, h3, h4⟩ => ⟨t, m, _, h1, h2, h3, fun y m1 v H1 l1 g1 r1 q1 => ⟨hT _ _ _ _ g1 r1 q1.1, y, [], m1, q, r1, .nil, g1, q1.2, h4.mono l1⟩⟩
end
end Ab

namespace Ab
open PySem PySem.Spec PyProof.Rows L2

section
variable {X : Cx} {pos : Pos} {st : Stmt} {rest : List Stmt} {t u : ATS} {e : Expr} {te : ATE}
def Fg (K : PySem.W.Frag) (m : AHp) (p : AHp → Prop) : Prop := ∃ m2, (∀ H, SimH K H m → SimH K H m2) ∧ p m2
def aNext : ATS := fun d a m => d.nx a m
def aSeq (K : PySem.W.Frag) (t u : ATS) : ATS := fun d a m => t ⟨fun a' m' => Fg K m' (u d a'), d.rt, d.bk, d.ct⟩ a m
theorem as_of {s : Stmt} {w : TS} {v : ATS} (h : PS X s w) (i : ∀ d D a m σ H, SimS X.K H a σ → SimH X.K H m → v d a m → KD X.K H d D → w D σ H) : AS X s v := psI h fun D σ H ⟨a, m, d, h1, h2, h3, h4⟩ => i d D a m σ H h1 h2 h3 h4
theorem ass_nil : ASs X [] aNext := pssI pss_nil fun D σ H ⟨a, m, d, h1, h2, h3, h4⟩ => h4.nx a m σ H .refl h1 h2 h3
theorem ass_cons (h1 : AS X st t) (h2 : ASs X rest u) : ASs X (st :: rest) (aSeq X.K t u) := pssI (pss_cons h1 h2) fun D σ H ⟨a, m, d, h1, h2, h3, h4⟩ =>
  ⟨a, m, _, h1, h2, h3, ⟨fun t' m' σ' H' l s h ⟨m2, z, q⟩ => ⟨t', m2, d, s, z _ h, q, h4.mono l⟩, h4.rt, h4.bk, h4.ct⟩⟩
theorem ass_one (h1 : AS X st t) : ASs X [st] t := pss_one h1
def aBreak : ATS := fun d a m => d.bk a m
def aCont : ATS := fun d a m => d.ct a m
theorem as_pass : AS X (.Pass pos) aNext := as_of ps_pass fun d D a m σ H h1 h2 h3 h4 => h4.nx a m σ H .refl h1 h2 h3
theorem as_break : AS X (.Break pos) aBreak := as_of ps_break fun d D a m σ H h1 h2 h3 h4 => h4.bk a m σ H .refl h1 h2 h3
theorem as_continue : AS X (.Continue pos) aCont := as_of ps_continue fun d D a m σ H h1 h2 h3 h4 => h4.ct a m σ H .refl h1 h2 h3
def aDrop (te : ATE) : ATS := fun d a m => te a m fun _ m1 => d.nx a m1
theorem as_expr (he : AE X e te) (hs : swapsWith e none pos.line X.env = pure false := by rfl) : AS X (.Expr e pos) (aDrop te) := as_of (ps_expr he hs) fun d D a m σ H h1 h2 h3 h4 =>
  ⟨a, m, _, h1, h2, h3, fun x m' v H' l g r q => h4.nx a m' σ H' l (h1.mono l) g q⟩
def aRet (te : ATE) : ATS := fun d a m => te a m d.rt
theorem as_ret (he : AE X e te) : AS X (.Return (some e) pos) (aRet te) := as_of (ps_ret he) fun d D a m σ H h1 h2 h3 h4 => ⟨a, m, _, h1, h2, h3, h4.rt⟩
def aIfS (c : ATT) (t u : ATS) : ATS := fun d a m => c a m fun b m1 => if b = true then t d a m1 else u d a m1
theorem as_if {c : Expr} {a b : List Stmt} {tc : ATT} (hc : AT X c tc) (ha : ASs X a t) (hb : ASs X b u) : AS X (.If c a b pos) (aIfS tc t u) := as_of (ps_if hc ha hb) fun d D a m σ H h1 h2 h3 h4 => by
  refine ⟨a, m, _, h1, h2, h3, fun b m1 H1 l g q => ?_⟩
  cases b with
  | true => exact ⟨a, m1, d, h1.mono l, g, q, h4.mono l⟩
  | false => exact ⟨a, m1, d, h1.mono l, g, q, h4.mono l⟩
def aNever : ATS := fun _ _ _ => False
theorem ass_never {sts : List Stmt} : ASs X sts aNever := pssI pss_never fun _ _ _ ⟨_, _, _, _, _, h, _⟩ => h

abbrev ATG := AV → ASt → AHp → (ASt → AHp → Prop) → Prop
abbrev ATGs := List AV → ASt → AHp → (ASt → AHp → Prop) → Prop
def KG (K : PySem.W.Frag) (H : Hp) (sl : List Nat) (σ : L2.St) (q : ASt → AHp → Prop) (Q : L2.St → Hp → Prop) : Prop :=
  ∀ t' m' σ' H', Le K H H' → SimS K H' t' σ' → SimH K H' m' → σ'.length = σ.length → (∀ i : Nat, i ∉ sl → σ'[i]? = σ[i]?) → q t' m' → Q σ' H'
def clG (K : PySem.W.Frag) (sl : List Nat) (g : ATG) : TG := fun v σ H Q => ∃ x a m q, SimV K H x v ∧ SimS K H a σ ∧ SimH K H m ∧ g x a m q ∧ KG K H sl σ q Q
def clGs (K : PySem.W.Frag) (sl : List Nat) (g : ATGs) : TGs := fun vs σ H Q => ∃ xs a m q, SimVs K H xs vs ∧ SimS K H a σ ∧ SimH K H m ∧ g xs a m q ∧ KG K H sl σ q Q
abbrev AG (X : Cx) (tg : Expr) (sl : List Nat) (g : ATG) : Prop := PG X tg (clG X.K sl g)
abbrev AGs (X : Cx) (tg : List Expr) (sl : List Nat) (g : ATGs) : Prop := PGs X tg (clGs X.K sl g)
theorem pgI {tg : Expr} {g k : TG} (h : PG X tg g) (i : ∀ v σ H Q, k v σ H Q → g v σ H Q) : PG X tg k := ⟨fun pins s σ H v u Q I r q => h.run pins s σ H v u Q I r (i v σ H Q q)⟩
theorem pgsI {tg : List Expr} {g k : TGs} (h : PGs X tg g) (i : ∀ v σ H Q, k v σ H Q → g v σ H Q) : PGs X tg k := ⟨fun pins s σ H v u Q I r q => h.run pins s σ H v u Q I r (i v σ H Q q)⟩
def aName (i : Nat) : ATG := fun x a m q => q (put a i x) m
theorem ag_name {i : Nat} {x : Str} (h : PG X (.Name x pos) (gName i)) : AG X (.Name x pos) [i] (aName i) := pgI h fun v σ H Q ⟨x, a, m, q, h1, h2, h3, h4, h5⟩ =>
  h5 _ m _ H .refl (h2.put h1 i) h3 (by simp) (fun j hj => by
    have : i ≠ j := fun z => hj (by simp [z])
    rw [List.getElem?_set_ne this]) h4
def aGNil : ATGs := fun xs a m q => match xs with
  | [] => q a m
  | _ => False
def aGCons (g : ATG) (r : ATGs) : ATGs := fun xs a m q => match xs with
  | x :: xs => g x a m fun a' m' => r xs a' m' q
  | [] => False
theorem ags_nil : AGs X [] [] aGNil := pgsI pgs_nil fun v σ H Q ⟨xs, a, m, q, h1, h2, h3, h4, h5⟩ => by
  cases h1 with
  | nil => exact ⟨rfl, h5 a m σ H .refl h2 h3 rfl (fun _ _ => rfl) h4⟩
  | cons _ _ => exact h4.elim
theorem ags_cons {es : List Expr} {sl sl' : List Nat} {g : ATG} {r : ATGs} (h1 : AG X e sl g) (h2 : AGs X es sl' r) (hs : (assignEach (e :: es) X.env).map (·.2) = assign e X.env :: (assignEach es X.env).map (·.2) := by rfl) : AGs X (e :: es) (sl ++ sl') (aGCons g r) :=
  pgsI (pgs_cons h1 h2 hs) fun v σ H Q ⟨xs, a, m, q, h1, h2, h3, h4, h5⟩ => by
    cases h1 with
    | nil => exact h4.elim
    | cons r1 rr =>
      refine ⟨_, _, rfl, _, a, m, _, r1, h2, h3, h4, fun t' m' σ' H' l s1 g1 z1 z2 q1 => ⟨_, t', m', q, rr.mono l, s1, g1, q1, fun t2 m2 σ2 H2 l2 s2 g2 z3 z4 q2 => h5 t2 m2 σ2 H2 (l.trans l2) s2 g2 (z3.trans z1) (fun i hi => ?_) q2⟩⟩
      rw [List.mem_append, not_or] at hi
      rw [z4 i hi.2, z2 i hi.1]
def aUnp (n : Nat) (g : ATGs) : ATG := fun x a m q => match x with
  | .tup xs => xs.length = n ∧ g xs a m q
  | _ => False
theorem ag_tup {es : List Expr} {k : Nat} {sl : List Nat} {g : ATGs} {n : Nat} (hc : X.calm = true) (h : AGs X es sl g)
    (hn : (assignEach es X.env).length = n := by rfl) (hst : (assignEach es X.env).findIdx? (·.1) = none := by rfl) : AG X (.Tuple es k pos) sl (aUnp n g) := pgI (pg_tup hc h hn hst) fun v σ H Q ⟨x, a, m, q, h1, h2, h3, h4, h5⟩ => by
  cases x with
  | tup xs =>
    cases h1 with
    | tup hq hs => exact ⟨_, _, rfl, hq, by rw [← hs.length]; exact h4.1, xs, a, m, q, hs, h2, h3, h4.2, h5⟩
  | _ => exact h4.elim
def aAsg (te : ATE) (g : ATG) : ATS := fun d a m => te a m fun x m1 => g x a m1 d.nx
theorem asg_of {K : PySem.W.Frag} {sl : List Nat} {g : ATG} {D : Ends} {σ : L2.St} {H : Hp} (h : clS K (aAsg te g) D σ H) : L2.tAsg (clE K te) (clG K sl g) D σ H := by
  obtain ⟨a, m, d, h1, h2, h3, h4⟩ := h
  exact ⟨a, m, _, h1, h2, h3, fun x m1 v H1 l g1 r q => ⟨x, a, m1, _, r, h1.mono l, g1, q, fun t' m' σ' H' l' s' g' _ _ q' => h4.nx t' m' σ' H' (l.trans l') s' g' q'⟩⟩
theorem as_asg {tg : Expr} {sl : List Nat} {g : ATG} (he : AE X e te) (hg : AG X tg sl g) (hs : swapsWithSole [tg] e pos.line X.env = pure false := by rfl) (hw : swappedStores [tg] e X.env = pure none := by rfl)
    (h1 : (assignEach [tg] X.env).map (·.2) = [assign tg X.env] := by rfl) : AS X (.Assign [tg] e pos) (aAsg te g) := psI (ps_asg he hg hs hw h1) fun _ _ _ h => asg_of h
theorem as_set {i : Nat} {x : Str} {pos' : Pos} (hN : X.N.Nodup) (hi : X.N[i]? = some x) (hx : Loc X.env.scope x) (he : AE X e te) (hs : swapsWith e (some (.Name x pos')) pos.line X.env = pure false := by rfl)
    (hf : X.fn x = true ∨ X.env.scope.names.lookup x = some .local := by first | exact .inl rfl | exact .inr rfl | assumption) : AS X (.Assign [.Name x pos'] e pos) (aAsg te (aName i)) := psI (ps_set hN hi hx he hs hf) fun D σ H ⟨a, m, d, h1, h2, h3, h4⟩ =>
  ⟨a, m, _, h1, h2, h3, fun x m1 v H1 l g1 r q => h4.nx _ m1 _ H1 l ((h1.mono l).put r i) g1 q⟩
def aPar (i j : Nat) (ta : ATA) : ATS := fun d a m => ta a m fun xs m1 => match xs with
  | [x, y] => d.nx (put (put a i x) j y) m1
  | _ => False
theorem as_par {i j : Nat} {x y : Str} {a b : Expr} {ta : ATA} {px py pt : Pos} {kt k2 pt2} (hc : X.calm = true) (hN : X.N.Nodup) (hi : X.N[i]? = some x) (hj : X.N[j]? = some y) (hij : i ≠ j)
    (hx : X.env.scope.names.lookup x = some .local) (hy : X.env.scope.names.lookup y = some .local) (ha : AA X [a, b] ta)
    (hw : swappedStores [.Tuple [.Name x px, .Name y py] kt pt] (.Tuple [a, b] k2 pt2) X.env = pure (some [x, y]))
    (hs : swapsWithSole [.Tuple [.Name x px, .Name y py] kt pt] (.Tuple [a, b] k2 pt2) pos.line X.env = pure false := by rfl) :
    AS X (.Assign [.Tuple [.Name x px, .Name y py] kt pt] (.Tuple [a, b] k2 pt2) pos) (aPar i j ta) := psI (ps_par hc hN hi hj hij hx hy ha hw hs) fun D σ H ⟨a, m, d, h1, h2, h3, h4⟩ => by
  refine ⟨a, m, _, h1, h2, h3, fun xs m1 vs H1 l g1 r q => ?_⟩
  match xs, r, q with
  | [x, y], .cons r1 (.cons r2 .nil), q => exact ⟨_, _, rfl, h4.nx _ m1 _ H1 l (((h1.mono l).put r1 i).put r2 j) g1 q⟩
  | [], _, q => exact q.elim
  | [_], _, q => exact q.elim
  | _ :: _ :: _ :: _, _, q => exact q.elim
def aAug (i : Nat) (r : AR2) (te : ATE) : ATS := fun d a m => match slot a i with
  | some x => te a m fun y m1 => r x y m1 fun z m2 => d.nx (put a i z) m2
  | none => False
theorem as_aug {i : Nat} {x : Str} {op : Operator} {r : AR2} {pos' : Pos} (hN : X.N.Nodup) (hi : X.N[i]? = some x) (hx : Loc X.env.scope x) (he : AE X e te) (ho : OpR X (inplaceOp op) (cl2 X.K r))
    (hf : X.fn x = true ∨ X.env.scope.names.lookup x = some .local := by first | exact .inl rfl | exact .inr rfl | assumption) : AS X (.AugAssign (.Name x pos') op e pos) (aAug i r te) :=
  psI (ps_aug hN hi hx he (ti := cl2 X.K r) (fun pins s σ H x y v u Q I r1 r2 h => ho pins s σ H x y v u Q I r1 r2 h) hf) fun D σ H ⟨a, m, d, h1, h2, h3, h4⟩ => by
    unfold aAug at h3
    cases es : slot a i with
    | none => rw [es] at h3; exact h3.elim
    | some x =>
      rw [es] at h3
      obtain ⟨w, g1, g2⟩ := h1.get i x (slot_get es)
      exact ⟨w, g1, a, m, _, h1, h2, h3, fun y m1 v H1 l1 g1 r1 q1 => ⟨x, y, m1, _, g2.mono l1, r1, g1, q1, fun z m2 u H2 l2 g2 r2 q2 => h4.nx _ m2 _ H2 (l1.trans l2) ((h1.mono (l1.trans l2)).put r2 i) g2 q2⟩⟩
abbrev ATSet := AV → AV → AV → AHp → (AHp → Prop) → Prop
def clSet (K : PySem.W.Frag) (r : ATSet) : TSet := fun o i v H Q => ∃ x y z m q, SimV K H x o ∧ SimV K H y i ∧ SimV K H z v ∧ SimH K H m ∧ r x y z m q ∧ ∀ m' H', Le K H H' → SimH K H' m' → q m' → Q H'
def aSub (to ti : ATE) (r : ATSet) : ATG := fun z a m q => to a m fun x m1 => ti a m1 fun y m2 => r x y z m2 fun m3 => q a m3
theorem ag_sub {o i : Expr} {to ti : ATE} {r : ATSet} (ho : AE X o to) (hi : AE X i ti) (hs : PSet X (clSet X.K r))
    (ha : ∀ v, assign (.Subscript o i pos) X.env v = (do
      let ov ← holding [v] (eval o X.env)
      let iv ← holding [v, ov] (eval i X.env)
      standAt pos
      holding [v, ov, iv] (setItem ov iv v)
      release [v, ov, iv] []) := by intro _; rfl) : AG X (.Subscript o i pos) [] (aSub to ti r) := pgI (pg_sub ho hi hs ha) fun v σ H Q ⟨z, a, m, q, h1, h2, h3, h4, h5⟩ =>
  ⟨a, m, _, h2, h3, h4, fun x m1 ov H1 l1 g1 r1 q1 => ⟨a, m1, _, h2.mono l1, g1, q1, fun y m2 iv H2 l2 g2 r2 q2 => ⟨x, y, z, m2, _, r1.mono l2, r2, h1.mono (l1.trans l2), g2, q2, fun m3 H3 l3 g3 q3 =>
    h5 a m3 σ H3 (l1.trans (l2.trans l3)) (h2.mono (l1.trans (l2.trans l3))) g3 rfl (fun _ _ => rfl) q3⟩⟩⟩

def whileN (K : PySem.W.Frag) (c : ATT) (tb : ATS) (d : AEnds) : Nat → ASt → AHp → Prop
  | 0, _, _ => False
  | n + 1, a, m => c a m fun b m1 => if b = true then tb ⟨fun a' m' => Fg K m' (whileN K c tb d n a'), d.rt, d.nx, fun a' m' => Fg K m' (whileN K c tb d n a')⟩ a m1 else d.nx a m1
def aWhile (K : PySem.W.Frag) (c : ATT) (tb : ATS) : ATS := fun d a m => ∃ n, whileN K c tb d n a m
theorem as_while {c : Expr} {body : List Stmt} {tc : ATT} {tb : ATS} (hp : PassesOwn (model X.prog X.w) X.A X.env X.xe) (hc : AT X c tc) (hb : ASs X body tb) : AS X (.While c body [] pos) (aWhile X.K tc tb) := psI (ps_while hp hc hb) fun D σ H ⟨a, m, d, h1, h2, ⟨n, h3⟩, h4⟩ => by
  refine ⟨fun n σ' H' => ∃ a m, Le X.K H H' ∧ SimS X.K H' a σ' ∧ SimH X.K H' m ∧ whileN X.K tc tb d n a m, ⟨n, a, m, .refl, h1, h2, h3⟩, ?_⟩
  rintro n σ1 H1 ⟨a1, m1, l1, s1, g1, w1⟩
  cases n with
  | zero => exact w1.elim
  | succ n =>
    refine ⟨a1, m1, _, s1, g1, w1, fun b m2 H2 l2 g2 q2 => ?_⟩
    cases b with
    | true =>
      rw [if_pos rfl]
      have q2 : tb ⟨fun a' m' => Fg X.K m' (whileN X.K tc tb d n a'), d.rt, d.nx, fun a' m' => Fg X.K m' (whileN X.K tc tb d n a')⟩ a1 m2 := q2
      have k := h4.mono (l1.trans l2)
      exact ⟨fun σ' H' => ∃ a m, Le X.K H H' ∧ SimS X.K H' a σ' ∧ SimH X.K H' m ∧ whileN X.K tc tb d n a m, fun σ' H' z => ⟨n, Nat.lt_succ_self n, z⟩, a1, m2, _, s1.mono l2, g2, q2,
        ⟨fun t' m' σ' H' l s g ⟨m5, z, q⟩ => ⟨t', m5, l1.trans (l2.trans l), s, z _ g, q⟩, k.rt, k.nx, fun t' m' σ' H' l s g ⟨m5, z, q⟩ => ⟨t', m5, l1.trans (l2.trans l), s, z _ g, q⟩⟩⟩
    | false =>
      rw [if_neg Bool.false_ne_true]
      have q2 : d.nx a1 m2 := q2
      exact h4.nx a1 m2 σ1 H2 (l1.trans l2) (s1.mono l2) g2 q2

structure ItS (K : PySem.W.Frag) (H0 : Hp) (xs : List AV) (G : AHp → Prop) (J : It) : Prop where
  go : ∀ i H m, Le K H0 H → SimH K H m → G m → i < xs.length → J.go i H
  yld : ∀ (i : Nat) H m v H' x, Le K H0 H → SimH K H m → G m → xs[i]? = some x → J.yld i H v H' → Le K H H' ∧ SimH K H' m ∧ SimV K H' x v
  stop : ∀ i H m, Le K H0 H → SimH K H m → G m → xs.length ≤ i → J.stop i H
abbrev ATI := ASt → AHp → (List AV → (AHp → Prop) → AHp → Prop) → Prop
def clI (K : PySem.W.Frag) (w : ATI) : TI := fun σ H R => ∃ a m q, SimS K H a σ ∧ SimH K H m ∧ w a m q ∧ ∀ xs G m' J H', Le K H H' → SimH K H' m' → ItS K H' xs G J → q xs G m' → R J H'
abbrev AI (X : Cx) (tg iter : Expr) (w : ATI) : Prop := PI X tg iter (clI X.K w)
theorem piI {tg iter : Expr} {w w' : TI} (h : PI X tg iter w) (i : ∀ σ H R, w' σ H R → w σ H R) : PI X tg iter w' := ⟨fun pins s σ H R I q => h.run pins s σ H R I (i σ H R q)⟩
def forL (K : PySem.W.Frag) (g : ATG) (tb : ATS) (G : AHp → Prop) (d : AEnds) : List AV → ASt → AHp → Prop
  | [], a, m => G m ∧ d.nx a m
  | x :: xs, a, m => G m ∧ g x a m fun a2 m2 => tb ⟨fun a' m' => Fg K m' (forL K g tb G d xs a'), d.rt, d.nx, fun a' m' => Fg K m' (forL K g tb G d xs a')⟩ a2 m2
def aFor (K : PySem.W.Frag) (w : ATI) (g : ATG) (tb : ATS) : ATS := fun d a m => w a m fun xs G m1 => forL K g tb G d xs a m1
theorem as_for {tg iter : Expr} {body : List Stmt} {w : ATI} {sl : List Nat} {g : ATG} {tb : ATS} (hp : PassesOwn (model X.prog X.w) X.A X.env X.xe) (hc : X.calm = true) (hi : AI X tg iter w) (hg : AG X tg sl g) (hb : ASs X body tb)
    (hs : ∀ x, foldedSetIterable iter X.env x = pure x := by intro _; rfl) : AS X (.For tg iter body [] pos) (aFor X.K w g tb) := psI (ps_for hp hc hi hg hb hs) fun D σ H ⟨a, m, d, h1, h2, h3, h4⟩ => by
  refine ⟨a, m, _, h1, h2, h3, fun xs G m1 J H1 l1 g1 S q1 => ⟨fun i k σ' H' => k = xs.length - i ∧ i ≤ xs.length ∧ ∃ a m, Le X.K H1 H' ∧ SimS X.K H' a σ' ∧ SimH X.K H' m ∧ forL X.K g tb G d (xs.drop i) a m, ⟨xs.length, by simp, Nat.zero_le _, a, m1, .refl, h1.mono l1, g1, q1⟩, ?_⟩⟩
  rintro i k σ2 H2 ⟨rfl, hi, a2, m2, l2, s2, g2, q2⟩
  by_cases hlt : i < xs.length
  · rw [List.drop_eq_getElem_cons hlt] at q2
    obtain ⟨gm, q2⟩ := q2
    refine .inr ⟨S.go i H2 m2 l2 g2 gm hlt, fun σ' H' => ∃ a m, Le X.K H1 H' ∧ SimS X.K H' a σ' ∧ SimH X.K H' m ∧ forL X.K g tb G d (xs.drop (i + 1)) a m, fun σ' H' z => ⟨xs.length - (i + 1), by omega, rfl, hlt, z⟩, fun v H3 y => ?_⟩
    obtain ⟨l3, g3, r3⟩ := S.yld i H2 m2 v H3 xs[i] l2 g2 gm (List.getElem?_eq_getElem hlt) y
    refine ⟨xs[i], a2, m2, _, r3, s2.mono l3, g3, q2, fun t4 m4 σ4 H4 l4 s4 g4 _ _ q4 => ?_⟩
    have k := h4.mono (l1.trans (l2.trans (l3.trans l4)))
    exact ⟨t4, m4, _, s4, g4, q4, ⟨fun t' m' σ' H' l s g ⟨m5, z, q⟩ => ⟨t', m5, l2.trans (l3.trans (l4.trans l)), s, z _ g, q⟩, k.rt, k.nx, fun t' m' σ' H' l s g ⟨m5, z, q⟩ => ⟨t', m5, l2.trans (l3.trans (l4.trans l)), s, z _ g, q⟩⟩⟩
  · have hi' : xs.length ≤ i := Nat.le_of_not_lt hlt
    rw [List.drop_eq_nil_of_le hi'] at q2
    exact .inl ⟨S.stop i H2 m2 l2 g2 q2.1 hi', h4.nx a2 m2 σ2 H2 (l1.trans l2) s2 g2 q2.2⟩

variable {tg : Expr}
def wSeq (te : ATE) : ATI := fun a m q => te a m fun x m1 => match x with
  | .ref b => ∃ xs, m1 b = some (.lst xs) ∧ q xs (fun m => m b = some (.lst xs)) m1
  | _ => False
theorem ai_list (h : AE X e te) : AI X tg e (wSeq te) := piI (pi_list h) fun σ H R ⟨a, m, q, h1, h2, h3, h4⟩ => by
  refine ⟨a, m, _, h1, h2, h3, fun x m1 v H1 l1 g1 r1 q1 => ?_⟩
  cases x with
  | ref b =>
    cases r1
    obtain ⟨xs, e1, q1⟩ := q1
    obtain ⟨ws, f1, f2⟩ := g1 b _ e1
    refine ⟨b, rfl, ⟨ws, SqL.of f1⟩, h4 xs _ m1 _ H1 l1 g1 ⟨fun i H' m' l g e i1 => ?_, fun i H' m' v H2 x l g e e2 y => ?_, fun i H' m' l g e i1 => ?_⟩ q1⟩
    · obtain ⟨ws, f1, f2⟩ := g b _ e
      have : i < ws.length := by rw [← f2.length]; exact i1
      exact ⟨ws, ws[i], SqL.of f1, List.getElem?_eq_getElem this⟩
    · obtain ⟨ws, f1, f2⟩ := g b _ e
      obtain ⟨rfl, y⟩ := y
      obtain ⟨v', e3, r3⟩ := f2.get e2
      have := y ws (SqL.of f1)
      rw [e3] at this; cases this
      exact ⟨.refl, g, r3⟩
    · obtain ⟨ws, f1, f2⟩ := g b _ e
      exact ⟨ws, SqL.of f1, by rw [← f2.length]; exact i1⟩
  | _ => exact q1.elim
def wTup (te : ATE) : ATI := fun a m q => te a m fun x m1 => match x with
  | .tup xs => q xs (fun _ => True) m1
  | _ => False
theorem ai_tup (h : AE X e te) : AI X tg e (wTup te) := piI (pi_tup h) fun σ H R ⟨a, m, q, h1, h2, h3, h4⟩ => by
  refine ⟨a, m, _, h1, h2, h3, fun x m1 v H1 l1 g1 r1 q1 => ?_⟩
  cases x with
  | tup xs =>
    cases r1 with
    | tup f1 f2 =>
      rename_i b ws
      refine ⟨b, rfl, ⟨ws, f1⟩, h4 xs _ m1 _ H1 l1 g1 ⟨fun i H' m' l g e i1 => ?_, fun i H' m' v H2 x l g e e2 y => ?_, fun i H' m' l g e i1 => ?_⟩ q1⟩
      · have : i < ws.length := by rw [← f2.length]; exact i1
        exact ⟨ws, ws[i], l.tup _ _ f1, List.getElem?_eq_getElem this⟩
      · obtain ⟨rfl, y⟩ := y
        obtain ⟨v', e3, r3⟩ := f2.get e2
        have := y ws (l.tup _ _ f1)
        rw [e3] at this; cases this
        exact ⟨.refl, g, r3.mono l⟩
      · exact ⟨ws, l.tup _ _ f1, by rw [← f2.length]; exact i1⟩
  | _ => exact q1.elim
def upto (n : Nat) : List AV := (List.range n).map fun i => AV.int (i : Nat)
theorem upto_len (n : Nat) : (upto n).length = n := by unfold upto; rw [List.length_map, List.length_range]
def wRange1 (te : ATE) : ATI := fun a m q => te a m fun x m1 => match x with
  | .int j => j < 2 ^ 62 ∧ -(2 ^ 62) ≤ j ∧ q (upto j.toNat) (fun _ => True) m1
  | _ => False
theorem itr_s {K : PySem.W.Frag} {H : Hp} (n : Nat) : ItS K H (upto n) (fun _ => True) (Itr 0 n) :=
  ⟨fun i H' m' l g e i1 => by rw [upto_len] at i1; exact i1, fun i H' m' v H2 x l g e e2 y => by
    obtain ⟨rfl, rfl⟩ := y
    have e2 : ((List.range n).map fun i => AV.int (i : Nat))[i]? = some x := e2
    rw [List.getElem?_map] at e2
    cases e3 : (List.range n)[i]? with
    | none => rw [e3] at e2; cases e2
    | some j =>
      rw [e3] at e2
      cases e2
      have : j = i := by
        obtain ⟨h5, h6⟩ := List.getElem?_eq_some_iff.mp e3
        rw [← h6, List.getElem_range]
      subst this
      refine ⟨.refl, g, ?_⟩
      rw [Int.zero_add]
      exact .int _, fun i H' m' l g e i1 => by rw [upto_len] at i1; exact i1⟩
theorem ai_range1 {a : Expr} {p : Pos} (hg : Gl X "range") (hm : X.mg "range" = none) (ha : AE X a te) (hs : starEach [a] X.env = [(false, eval a X.env)] := by rfl) : AI X tg (.Call (.Name "range" p) [a] [] pos) (wRange1 te) :=
  piI (pi_range1 hg hm (pa_cons ha pa_nil hs) hs) fun σ H R ⟨a, m, q, h1, h2, h3, h4⟩ => by
    refine ⟨a, m, _, h1, h2, h3, fun x m1 v H1 l1 g1 r1 q1 => ?_⟩
    cases x with
    | int j => cases r1; exact ⟨j, rfl, q1.2.1, q1.1, h4 _ _ m1 _ H1 l1 g1 (itr_s _) q1.2.2⟩
    | _ => exact q1.elim
end

def wipeA (a : ASt) : List Nat → ASt
  | [] => a
  | v :: vs => (wipeA a vs).set v none
theorem SimS.wiped {K : PySem.W.Frag} {H : Hp} {a : ASt} {σ : L2.St} (h : SimS K H a σ) : ∀ vs : List Nat, SimS K H (wipeA a vs) (L2.wipe σ vs)
  | [] => h
  | v :: vs => by
    have q := SimS.wiped h vs
    refine ⟨by show ((wipeA a vs).set v none).length = ((wipe σ vs).set v none).length; simpa using q.len, fun j y e => ?_⟩
    have e : ((wipeA a vs).set v none)[j]? = some (some y) := e
    by_cases hj : v = j
    · subst hj
      have hl : v < (wipeA a vs).length := by
        have := (List.getElem?_eq_some_iff.mp e).1
        simpa using this
      rw [List.getElem?_set_self hl] at e; cases e
    · rw [List.getElem?_set_ne hj] at e
      obtain ⟨u, h1, h2⟩ := q.get j y e
      exact ⟨u, by show ((wipe σ vs).set v none)[j]? = _; rw [List.getElem?_set_ne hj]; exact h1, h2⟩
theorem wipe_at (σ : L2.St) (i : Nat) : ∀ vs : List Nat, (wipe σ vs)[i]? = if i ∈ vs then (σ[i]?).map (fun _ => none) else σ[i]?
  | [] => by simp [wipe]
  | v :: vs => by
    have ih := wipe_at σ i vs
    show ((wipe σ vs).set v none)[i]? = _
    by_cases hv : v = i
    · subst hv
      rw [if_pos List.mem_cons_self]
      by_cases hl : v < (wipe σ vs).length
      · rw [List.getElem?_set_self hl]
        rw [wipe_length] at hl
        rw [List.getElem?_eq_getElem hl]; rfl
      · rw [List.getElem?_eq_none (by simpa using hl)]
        rw [wipe_length] at hl
        rw [List.getElem?_eq_none (by omega)]; rfl
    · rw [List.getElem?_set_ne hv, ih]
      by_cases hm : i ∈ vs
      · rw [if_pos hm, if_pos (List.mem_cons_of_mem _ hm)]
      · rw [if_neg hm, if_neg (by intro z; rcases List.mem_cons.mp z with z | z; exact hv z.symm; exact hm z)]
theorem wipe_same {σ σ' : L2.St} {sl vs : List Nat} (hsl : ∀ i ∈ sl, i ∈ vs) (hl : σ'.length = (wipe σ vs).length) (h : ∀ i : Nat, i ∉ sl → σ'[i]? = (wipe σ vs)[i]?) : wipe σ' vs = wipe σ vs := by
  apply List.ext_getElem?
  intro i
  rw [wipe_at σ' i vs]
  by_cases hm : i ∈ vs
  · rw [if_pos hm, wipe_at, if_pos hm]
    rw [wipe_length] at hl
    by_cases h1 : i < σ'.length
    · rw [List.getElem?_eq_getElem h1, List.getElem?_eq_getElem (by omega)]; rfl
    · rw [List.getElem?_eq_none (by omega), List.getElem?_eq_none (by omega)]
  · rw [if_neg hm]
    exact h i fun z => hm (hsl i z)
section
variable {X : Cx} {pos : Pos}
def lcL (K : PySem.W.Frag) (g : ATG) (tt : ATT) (te : ATE) (G : AHp → Prop) (D : Addr) (q : AK) (a : ASt) : List AV → AHp → Prop
  | [], m => G m ∧ q (.ref D) m
  | x :: xs, m => G m ∧ g x a m fun a2 m2 => tt a2 m2 fun b m3 => if b = true then te a2 m3 fun y m4 => Fg K m4 fun m5 => match m5 D with
      | some (.lst acc) => acc.length < sizeLine ∧ lcL K g tt te G D q a xs (updA m5 D (.lst (acc ++ [y])))
      | _ => False
    else Fg K m3 fun m5 => lcL K g tt te G D q a xs m5
def aLc (K : PySem.W.Frag) (w : ATI) (g : ATG) (tt : ATT) (te : ATE) (vs : List Nat) : ATE := fun a m q => w a m fun xs G m1 => ∀ D, m1 D = none → lcL K g tt te G D q (wipeA a vs) xs (updA m1 D (.lst []))
theorem lc_of {K : PySem.W.Frag} {w : ATI} {g : ATG} {tt : ATT} {te : ATE} {sl vs : List Nat} (hsl : ∀ i ∈ sl, i ∈ vs) {σ : L2.St} {H : Hp} {Q : VK} (h : clE K (aLc K w g tt te vs) σ H Q) : tLc (clI K w) (clG K sl g) (clT K tt) (clE K te) vs σ H Q := by
  obtain ⟨a, m, q, h1, h2, h3, h4⟩ := h
  refine ⟨a, m, _, h1, h2, h3, fun xs G m1 J H1 l1 g1 S q1 => fun D hD => ?_⟩
  have q1 := q1 D (g1.free hD)
  have lD : Le K H1 (upd H1 D (.lst [])) := .new hD
  refine ⟨fun i k H' => k = xs.length - i ∧ i ≤ xs.length ∧ ∃ m, Le K (upd H1 D (.lst [])) H' ∧ SimH K H' m ∧ lcL K g tt te G D q (wipeA a vs) (xs.drop i) m, ⟨xs.length, by simp, Nat.zero_le _, _, .refl, g1.new hD (o := .lst []) ⟨[], upd_same, .nil⟩, q1⟩, ?_⟩
  rintro i k H2 ⟨rfl, hi, m2, l2, g2, q2⟩
  have l12 := lD.trans l2
  have s2 : SimS K H2 (wipeA a vs) (wipe σ vs) := (h1.wiped vs).mono (l1.trans l12)
  by_cases hlt : i < xs.length
  · rw [List.drop_eq_getElem_cons hlt] at q2
    obtain ⟨gm, q2⟩ := q2
    refine .inr ⟨S.go i H2 m2 l12 g2 gm hlt, fun H' => ∃ m, Le K (upd H1 D (.lst [])) H' ∧ SimH K H' m ∧ lcL K g tt te G D q (wipeA a vs) (xs.drop (i + 1)) m, fun H' z => ⟨xs.length - (i + 1), by omega, rfl, hlt, z⟩, fun v H3 y => ?_⟩
    obtain ⟨l3, g3, r3⟩ := S.yld i H2 m2 v H3 xs[i] l12 g2 gm (List.getElem?_eq_getElem hlt) y
    refine ⟨xs[i], wipeA a vs, m2, _, r3, s2.mono l3, g3, q2, fun t4 m4 σ4 H4 l4 s4 g4 z1 z2 q4 => ⟨wipe_same hsl z1 z2, t4, m4, _, s4, g4, q4, fun b m5 H5 l5 g5 q5 => ?_⟩⟩
    cases b with
    | false =>
      rw [if_neg Bool.false_ne_true]
      rw [if_neg Bool.false_ne_true] at q5
      obtain ⟨m6, z, q5⟩ := q5
      exact ⟨m6, l2.trans (l3.trans (l4.trans l5)), z _ g5, q5⟩
    | true =>
      rw [if_pos rfl]
      rw [if_pos rfl] at q5
      refine ⟨t4, m5, _, s4.mono l5, g5, q5, fun y m6 v6 H6 l6 g6 r6 ⟨m6, z6, q6⟩ => ?_⟩
      have g6 := z6 _ g6
      dsimp only at q6
      cases e6 : m6 D with
      | none => rw [e6] at q6; exact q6.elim
      | some o =>
        rw [e6] at q6
        cases o with
        | lst acc =>
          obtain ⟨ws, f1, f2⟩ := g6 D _ e6
          have l7 : Le K H6 (upd H6 D (.lst (ws ++ [v6]))) := .lst f1
          exact ⟨ws, f1, by rw [← f2.length]; exact q6.1, _, l2.trans (l3.trans (l4.trans (l5.trans (l6.trans l7)))),
            g6.put l7 (fun b u hb e => by rw [upd_ne hb]; exact e) (.lst (acc ++ [y])) (fun b z => by rw [e6] at z; cases z) ⟨_, upd_same, (f2.append (.cons r6 .nil)).mono l7⟩, q6.2⟩
        | _ => exact q6.elim
  · have hi' : xs.length ≤ i := Nat.le_of_not_lt hlt
    rw [List.drop_eq_nil_of_le hi'] at q2
    exact .inl ⟨S.stop i H2 m2 l12 g2 q2.1 hi', h4 _ m2 _ H2 (l1.trans l12) g2 (.ref D) q2.2⟩
variable {elt tg iter : Expr} {ifs : List Expr} {scope : Scope} {own : List (Str × Nat)} {w : ATI} {sl : List Nat} {g : ATG} {tt : ATT} {te : ATE}
abbrev ATs (X : Cx) (ifs : List Expr) (t : ATT) : Prop := PTs X ifs (clT X.K t)
theorem ptsI {t u : TT} (h : PTs X ifs t) (i : ∀ σ H Q, u σ H Q → t σ H Q) : PTs X ifs u := ⟨fun pins s σ H Q I q => h.run pins s σ H Q I (i σ H Q q)⟩
def aYes : ATT := fun _ m q => q true m
theorem ats_nil : ATs X [] aYes := ptsI pts_nil fun σ H Q ⟨a, m, q, h1, h2, h3, h4⟩ => h4 true m H .refl h2 h3
theorem ats_one {c : Expr} {t : ATT} (h : AT X c t) : ATs X [c] t := pts_one h
theorem ae_lc (hc : X.calm = true) (hN : X.N.Nodup) (hi : AI X tg iter w) (ok : BlkOk X.N X.env.scope scope own)
    (hg : ∀ (s : Shared) (H : Hp) (C : Addr) (cl : List (Str × Addr)) (fp : List Addr), AG (X.blk s H scope (compEnvC scope cl C X.env) fp) tg sl g) (ht : ∀ (s : Shared) (H : Hp) (C : Addr) (cl : List (Str × Addr)) (fp : List Addr), ATs (X.blk s H scope (compEnvC scope cl C X.env) fp) ifs tt)
    (he : ∀ (s : Shared) (H : Hp) (C : Addr) (cl : List (Str × Addr)) (fp : List Addr), AE (X.blk s H scope (compEnvC scope cl C X.env) fp) elt te) (hsl : ∀ i ∈ sl, i ∈ own.map (·.2) := by decide) (hs : ∀ x, foldedSetIterable iter X.env x = pure x := by intro _; rfl) :
    AE X (.ListComp elt [⟨tg, iter, ifs, 0⟩] scope pos) (aLc X.K w g tt te (own.map (·.2))) := peI (pe_lc hc hN hi ok hg ht he hs) fun _ _ _ h => lc_of hsl h
theorem as_setLc {i : Nat} {y : Str} {py spos : Pos} (hc : X.calm = true) (hN : X.N.Nodup) (hy : X.N[i]? = some y) (hyl : X.env.scope.names.lookup y = some .local)
    (hsw : swapsWith (.ListComp elt [⟨tg, iter, ifs, 0⟩] scope pos) (some (.Name y py)) spos.line X.env = pure true) (hi : AI X tg iter w) (ok : BlkOk X.N X.env.scope scope own)
    (hg : ∀ (s : Shared) (H : Hp) (C : Addr) (cl : List (Str × Addr)) (fp : List Addr), AG (X.blk s H scope (compEnvC scope cl C X.env) fp) tg sl g) (ht : ∀ (s : Shared) (H : Hp) (C : Addr) (cl : List (Str × Addr)) (fp : List Addr), ATs (X.blk s H scope (compEnvC scope cl C X.env) fp) ifs tt)
    (he : ∀ (s : Shared) (H : Hp) (C : Addr) (cl : List (Str × Addr)) (fp : List Addr), AE (X.blk s H scope (compEnvC scope cl C X.env) fp) elt te) (hsl : ∀ i ∈ sl, i ∈ own.map (·.2) := by decide) (hs : ∀ x, foldedSetIterable iter X.env x = pure x := by intro _; rfl) :
    AS X (.Assign [.Name y py] (.ListComp elt [⟨tg, iter, ifs, 0⟩] scope pos) spos) (aAsg (aLc X.K w g tt te (own.map (·.2))) (aName i)) := psI (ps_setLc (i := i) hc hN hy hyl hsw hi ok hg ht he hs) fun D σ H ⟨a, m, d, h1, h2, h3, h4⟩ => by
  have z : clE X.K (aLc X.K w g tt te (own.map (·.2))) σ H (fun x H1 => gName i x σ H1 D.nx) := ⟨a, m, _, h1, h2, h3, fun x m1 v H1 l g1 r q => h4.nx _ m1 _ H1 l ((h1.mono l).put r i) g1 q⟩
  exact lc_of hsl z
end
end Ab

namespace Ab
open PySem PySem.Spec PyProof.Rows L2

structure FnG (P : Program) (w : World) (K : PySem.W.Frag) (mg : Str → Option Value) (base : Heap) (C : CXT) (k : Nat) (f : Addr) (fd : FuncData) (ps : List Str) (sp : Sp) : Prop where
  long : ∀ vs H Q E, sp vs H Q E → vs.length = ps.length
  go : ∀ (A : Around) (o : List Env) (s : Shared) (H : Hp) (ar : Args) (us : List Value) (vs : List V) (Q : VK) (E : XK),
    Room k A → A.guards = some [] → Env0 P w K mg base A o s H → BindsTo s fd ar (ps.zip us) → Vals vs us → sp vs H Q E →
    codeAny (model P w) A (.call (.ref f) ar) (CR C o P w H s Q E) s
theorem FnG.up {P : Program} {w : World} {K : PySem.W.Frag} {mg : Str → Option Value} {base : Heap} {C : CXT} {j k : Nat} {f : Addr} {fd : FuncData} {ps : List Str} {sp : Sp}
    (F : FnG P w K mg base C j f fd ps sp) (h : j ≤ k) : FnG P w K mg base C k f fd ps sp :=
  ⟨F.long, fun A o s H ar us vs Q E hr => F.go A o s H ar us vs Q E (hr.mono h)⟩
theorem FnG.weak {P : Program} {w : World} {K : PySem.W.Frag} {mg : Str → Option Value} {base : Heap} {C : CXT} {k : Nat} {f : Addr} {fd : FuncData} {ps : List Str} {sp sp' : Sp}
    (F : FnG P w K mg base C k f fd ps sp) (h : ∀ vs H Q E, sp' vs H Q E → sp vs H Q E) : FnG P w K mg base C k f fd ps sp' :=
  ⟨fun vs H Q E z => F.long vs H Q E (h _ _ _ _ z), fun A o s H ar us vs Q E hr hg he hb hv z => F.go A o s H ar us vs Q E hr hg he hb hv (h _ _ _ _ z)⟩

section
variable {X : Cx} {C : CXT} {k : Nat} {f : Addr} {fd : FuncData} {ps : List Str} {sp : Sp} {dvs : List V} {ds : List Value} {E : XK} {x : Str} {p pos : Pos} {e : Expr} {es : List Expr} {t : TA}
theorem callG {pins : List (Addr × Obj)} {σ : L2.St} {H : Hp} {s : Shared} {Q : VK} {us : List Value} {vs : List V}
    (F : FnG X.prog X.w X.K X.mg X.base C k f fd ps sp) (hr : Room k X.A) (hgd : X.A.guards = some []) (hb : Binds X.K fd ps ds) (hd : Vals dvs ds) (hx : Passes C X E)
    (I : Inv X pins σ H s) (r : Vals vs us) (z : sp (vs ++ dvs) H Q E) : wpAny (model X.prog X.w) X.A (call (.ref f) us) (EP X pins σ Q) X.xe s := by
  have both : Vals (vs ++ dvs) (us ++ ds) := Vals.append r hd
  have size : (us ++ ds).length = ps.length := (Vals.length both).symm.trans (F.long _ _ _ _ z)
  have run := F.go X.A X.stack s H ⟨us, []⟩ (us ++ ds) (vs ++ dvs) Q E hr hgd I.env0 (hb s us I.kIn size) both z
  refine wpAny_call (codeAny_mono run fun a s2 q => ?_)
  match a, q with
  | .error y, q => exact hx pins σ H s y s2 I q
  | .ok (.ret u), q => exact I.after q
  | .ok .next, q => exact False.elim q
  | .ok .brk, q => exact False.elim q
  | .ok .cont, q => exact False.elim q
theorem pe_callG (F : FnG X.prog X.w X.K X.mg X.base C k f fd ps sp) (hr : Room k X.A) (hgd : X.A.guards = some []) (hg : Gl X x) (hm : X.mg x = some (.ref f)) (hk : PySem.W.keepIn X.K (.ref f) = true)
    (hb : Binds X.K fd ps ds) (hd : Vals dvs ds) (hx : Passes C X E) (ha : PA X (e :: es) t) (nd : (x == ("__debug__" : Str)) = false := by decide)
    (se : starEach (e :: es) X.env = (false, eval e X.env) :: starEach es X.env := by rfl) (sp0 : (backTo pos (starEach es X.env)).any (·.1) = false := by rfl) : PE X (.Call (.Name x p) (e :: es) [] pos) (tCall sp dvs E t) :=
  ⟨fun pins s σ H Q I h => wpAny_Call_Name_kw (ld_glob I hg hm
    (PySem.W.callWith_K (h₀ := X.base) I.ok.mod.kin hk (thn (ha.run pos pins s σ H _ I h) fun us s1 ⟨vs, H1, I1, r, q⟩ => ⟨I1.kIn, callG F hr hgd hb hd hx I1 r q⟩) se sp0) nd)⟩
theorem pe_callG0 (F : FnG X.prog X.w X.K X.mg X.base C k f fd ps sp) (hr : Room k X.A) (hgd : X.A.guards = some []) (hg : Gl X x) (hm : X.mg x = some (.ref f)) (hk : PySem.W.keepIn X.K (.ref f) = true)
    (hb : Binds X.K fd ps ds) (hd : Vals dvs ds) (hx : Passes C X E) (nd : (x == ("__debug__" : Str)) = false := by decide) : PE X (.Call (.Name x p) [] [] pos) (tCall sp dvs E tNil) :=
  ⟨fun pins s σ H Q I h => wpAny_Call_Name_kw (ld_glob I hg hm (PySem.W.callWith_K0 I.kIn hk (callG (us := []) F hr hgd hb hd hx I .nil h)) nd)⟩
end

theorem bodyG {C : CXT} {P : Program} {w : World} {K : PySem.W.Frag} {mg : Str → Option Value} {base : Heap} {k : Nat} {f : Addr} {nm qual : Str} {params : Arguments} {body : List Stmt} {scope : Scope} {dV kV doc pm cdv ct oc : Value} {an od : Option Addr}
    {osl : Array (Option Value)} {N ps : List Str} {sp : Sp} (there : K.lookup f = some ⟨oc, od, .func (PySem.W.fnOf nm qual params body scope dV kV doc pm an cdv ct), osl⟩) (code : PySem.W.codeIn K cdv qual = true) (S : FnScope N ps scope)
    (long : ∀ vs H Q E, sp vs H Q E → vs.length = ps.length)
    (hb : ∀ (A : Around) (o : List Env) (s : Shared) (H : Hp) (vs : List V) (Q : VK) (E : XK), Room k (A.deeper (envOfC qual scope s.heap.objs.size f cdv)) → A.guards = some [] → sp vs H Q E →
      ∃ t, PSs (cxOf C P w K mg base N qual scope f cdv A o s H E) body t ∧ t { nx := fun _ H' => Q .non H', rt := Q } (L2.start N vs) H) :
    FnG P w K mg base C (k + 1) f (PySem.W.fnOf nm qual params body scope dV kV doc pm an cdv ct) ps sp := by
  constructor
  · exact long
  intro A o s H ar us vs Q E room gd env0 bind rel want
  have inK : K.In s.heap := env0.mod.kin.keeps fun b u z => (env0.bs b u z).1
  have free : s.heap.NoLimit := env0.mod.nolimit.keeps fun b u z => (env0.bs b u z).1
  have kinds : ∀ y ∈ ps.zip us, scope.names.lookup y.1 = some .local ∨ (scope.names.lookup y.1 = some .cell ∧ ((cellsFrom (s.heap.objs.size + 1) scope.names []).lookup y.1).isSome = true) := by
    rintro ⟨n, v⟩ hy
    cases S.par n (List.of_mem_zip hy).1 with
    | inl z => exact Or.inl z
    | inr z => exact Or.inr ⟨z, PySem.W.cellsFrom_some _ _ _ (Or.inl z)⟩
  apply codeAny_call_function room.depth (inK _ _ there) rfl S.co S.gen rfl (PySem.W.codeRec_of inK code)
  apply bind
  apply wpAny_newFunctionEnv_cells S.kind kinds
  intro env same s1 x
  subst same
  refine ⟨free.keeps x.toInCall.keep, codeAny_func ?_⟩
  obtain ⟨t, body_ok, reads⟩ := hb A o s H vs Q E (room.deeper _) gd want
  have inv := inv_start (CX := C) (E := E) (w := w) (P := P) (mg := mg) (base := base) S room.hd env0 (long _ _ _ _ want) rel x
  have fin : ∀ {σ' : L2.St} {H' : Hp} {v : V} {u : Value} {s' : Shared}, Inv (cxOf C P w K mg base N qual scope f cdv A o s H E) [] σ' H' s' → RelV v u → Q v H' → CE o P w H s Q u s' := by
    intro σ' H' v u s' J rv q
    exact ⟨v, H', J.os, J.bare, J.base, J.hok, rv, q⟩
  apply wpAny_mono (body_ok.run [] s1 (L2.start N vs) H _ inv reads)
  · intro fl s' hs
    match fl, hs with
    | .ret u, ⟨v, σ', H', J, rv, q⟩ => exact fin J rv q
    | .next, ⟨σ', H', J, q⟩ => exact fin (v := V.non) (u := Value.none) J rfl q
    | .brk, ⟨_, _, _, q⟩ => exact q.elim
    | .cont, ⟨_, _, _, q⟩ => exact q.elim
  · intro e s' hs
    exact hs

abbrev ASp := List AV → AHp → AK → Prop
def clF (K : PySem.W.Frag) (sp : ASp) : Sp := fun vs H Q _ => ∃ xs m q, SimVs K H xs vs ∧ SimH K H m ∧ sp xs m q ∧ KE K H q Q
abbrev AFn (P : Program) (w : World) (K : PySem.W.Frag) (mg : Str → Option Value) (base : Heap) (k : Nat) (f : Addr) (fd : FuncData) (ps : List Str) (sp : ASp) : Prop := FnG P w K mg base CX0 k f fd ps (clF K sp)
theorem AFn.imp {P : Program} {w : World} {K : PySem.W.Frag} {mg : Str → Option Value} {base : Heap} {k : Nat} {f : Addr} {fd : FuncData} {ps : List Str} {sp sp' : ASp}
    (F : AFn P w K mg base k f fd ps sp) (h : ∀ xs m q, sp' xs m q → sp xs m q) : AFn P w K mg base k f fd ps sp' := FnG.weak F fun _ _ _ _ ⟨xs, m, q, h1, h2, h3, h4⟩ => ⟨xs, m, q, h1, h2, h _ _ _ h3, h4⟩
def aCall (sp : ASp) (dxs : List AV) (t : ATA) : ATE := fun a m q => t a m fun xs m1 => sp (xs ++ dxs) m1 q
section
variable {X : Cx} {k : Nat} {f : Addr} {fd : FuncData} {ps : List Str} {sp : ASp} {dvs : List V} {dxs : List AV} {ds : List Value} {x : Str} {p pos : Pos} {e : Expr} {es : List Expr} {t : ATA}
theorem ae_callD (F : AFn X.prog X.w X.K X.mg X.base k f fd ps sp) (hr : Room k X.A) (hgd : X.A.guards = some []) (hg : Gl X x) (hm : X.mg x = some (.ref f)) (hk : PySem.W.keepIn X.K (.ref f) = true)
    (hb : Binds X.K fd ps ds) (hd : Vals dvs ds) (hs : ∀ H, SimVs X.K H dxs dvs) (ha : AA X (e :: es) t) (nd : (x == ("__debug__" : Str)) = false := by decide)
    (se : starEach (e :: es) X.env = (false, eval e X.env) :: starEach es X.env := by rfl) (sp0 : (backTo pos (starEach es X.env)).any (·.1) = false := by rfl) : AE X (.Call (.Name x p) (e :: es) [] pos) (aCall sp dxs t) :=
  peI (pe_callG F hr hgd hg hm hk hb hd pass0 ha nd se sp0) fun σ H Q ⟨a, m, q, h1, h2, h3, h4⟩ => ⟨a, m, _, h1, h2, h3, fun xs m1 vs H1 l g r z => ⟨xs ++ dxs, m1, q, r.append (hs H1), g, z, h4.mono l⟩⟩
theorem ae_call (F : AFn X.prog X.w X.K X.mg X.base k f fd ps sp) (hr : Room k X.A) (hgd : X.A.guards = some []) (hg : Gl X x) (hm : X.mg x = some (.ref f)) (hk : PySem.W.keepIn X.K (.ref f) = true)
    (hb : Binds X.K fd ps []) (ha : AA X (e :: es) t) (nd : (x == ("__debug__" : Str)) = false := by decide)
    (se : starEach (e :: es) X.env = (false, eval e X.env) :: starEach es X.env := by rfl) (sp0 : (backTo pos (starEach es X.env)).any (·.1) = false := by rfl) : AE X (.Call (.Name x p) (e :: es) [] pos) (aCall sp [] t) :=
  ae_callD F hr hgd hg hm hk hb .nil (fun _ => .nil) ha nd se sp0
theorem ae_call0 (F : AFn X.prog X.w X.K X.mg X.base k f fd ps sp) (hr : Room k X.A) (hgd : X.A.guards = some []) (hg : Gl X x) (hm : X.mg x = some (.ref f)) (hk : PySem.W.keepIn X.K (.ref f) = true)
    (hb : Binds X.K fd ps []) (nd : (x == ("__debug__" : Str)) = false := by decide) : AE X (.Call (.Name x p) [] [] pos) (aCall sp [] aNil) :=
  peI (pe_callG0 F hr hgd hg hm hk hb .nil pass0 nd) fun σ H Q ⟨a, m, q, h1, h2, h3, h4⟩ => ⟨[], m, q, .nil, h2, h3, h4⟩
end
abbrev Fin (K : PySem.W.Frag) (q : AK) (v : AV) (m' : AHp) : Prop := Fg K m' fun m2 => q v m2
theorem Fg.keep {K : PySem.W.Frag} {m : AHp} {p : AHp → Prop} (h : p m) : Fg K m p := ⟨m, fun _ z => z, h⟩
theorem Fg.drop {K : PySem.W.Frag} {m m2 : AHp} {p : AHp → Prop} (w : Own m2) (s : Sub m2 m) (h : p m2) : Fg K m p := ⟨m2, fun _ z => z.sub s w, h⟩
theorem Own.put {m : AHp} {p : Addr} {o : AO} (h : Own m) (hp : ∀ b, m p ≠ some (.hid b)) (no : ∀ c, o ≠ .deck c) : Own (updA m p o) := fun a c e => by
  have ha : a ≠ p := by
    rintro rfl
    rw [updA_same] at e
    cases e
    exact no _ rfl
  rw [updA_ne ha] at e
  have hc : c ≠ p := by
    rintro rfl
    exact hp _ (h a _ e)
  rw [updA_ne hc]
  exact h a c e
section
variable {K : PySem.W.Frag} {m m' : AHp} {q : AK} {v : AV} {p : Addr} {o : AO}
theorem Fin.same (h : q v m) : Fin K q v m := ⟨m, fun _ z => z, h⟩
theorem Fin.pure (w : Own m) (s : Sub m m') (h : q v m) : Fin K q v m' := ⟨m, fun _ z => z.sub s w, h⟩
theorem Fin.obj (w : Own m) (s : Sub m m') (hp : m p = none) (e : m' p = some o) (no : ∀ c, o ≠ .deck c) (h : q v (updA m p o)) : Fin K q v m' :=
  ⟨updA m p o, fun _ z => z.sub (fun a u z => by
    by_cases ha : a = p
    · subst ha
      rw [updA_same] at z
      cases z
      exact e
    · rw [updA_ne ha] at z
      exact s a u z) (w.put (fun b z => by rw [hp] at z; cases z) no), h⟩
theorem Fin.list {xs : List AV} (w : Own m) (s : Sub m m') (hp : m p = none) (e : m' p = some (.lst xs)) (h : q (.ref p) (updA m p (.lst xs))) : Fin K q (.ref p) m' := .obj w s hp e (fun c z => by cases z) h
end
theorem Sub.refl {m : AHp} : Sub m m := fun _ _ z => z
theorem Sub.trans {m m1 m2 : AHp} (a : Sub m m1) (b : Sub m1 m2) : Sub m m2 := fun c o z => b c o (a c o z)
theorem Sub.new {m m' : AHp} {p : Addr} {o : AO} (s : Sub m m') (h : m p = none) : Sub m (updA m' p o) := fun a u z => by
  have : a ≠ p := by
    rintro rfl
    rw [h] at z
    cases z
  rw [updA_ne this]
  exact s a u z
theorem Sub.none {m m' : AHp} (s : Sub m m') {p : Addr} (h : m' p = none) : m p = none := by
  cases e : m p with
  | none => rfl
  | some o =>
    rw [s p o e] at h
    cases h
def startA (N : List Str) (xs : List AV) : ASt := xs.map some ++ List.replicate (N.length - xs.length) none
theorem start_sim {K : PySem.W.Frag} {H : Hp} {N : List Str} {xs : List AV} {vs : List V} (r : SimVs K H xs vs) : SimS K H (startA N xs) (L2.start N vs) := by
  have hl := r.length
  refine ⟨by unfold startA L2.start; simp [hl], fun i x e => ?_⟩
  unfold startA at e
  unfold L2.start
  by_cases hi : i < xs.length
  · rw [List.getElem?_append_left (by simpa using hi), List.getElem?_map] at e
    cases e1 : xs[i]? with
    | none => rw [e1] at e; cases e
    | some y =>
      rw [e1] at e
      cases e
      obtain ⟨v, h1, h2⟩ := r.get e1
      exact ⟨v, by rw [List.getElem?_append_left (by rw [List.length_map]; omega), List.getElem?_map, h1]; rfl, h2⟩
  · rw [List.getElem?_append_right (by simpa using hi), List.getElem?_replicate] at e
    split at e <;> cases e
theorem okB {P : Program} {w : World} {K : PySem.W.Frag} {mg : Str → Option Value} {base : Heap} {x qual : Str} {st : Stmt} {f : Addr} {fd : FuncData} {N ps : List Str} {k : Nat} {sp : ASp} (F : Fun K x qual st f fd) (S : FnScope N ps (defScope st))
    (len : ∀ xs m q, sp xs m q → xs.length = ps.length)
    (hb : ∀ (cdv : Value) (A : Around) (o : List Env) (s : Shared) (H : Hp) (E : XK), Room k (A.deeper (envOfC qual (defScope st) s.heap.objs.size f cdv)) → A.guards = some [] →
      ∃ t, ASs (cxOf CX0 P w K mg base N qual (defScope st) f cdv A o s H E).nox (defBody st) t ∧ ∀ H xs m q, sp xs m q → SimH K H m → ∃ m1, SimH K H m1 ∧ t ⟨fun _ m' => Fin K q .non m', fun v m' => Fin K q v m', fun _ _ => False, fun _ _ => False⟩ (startA N xs) m1) : AFn P w K mg base (k + 1) f fd ps sp := by
  obtain ⟨oc, od, kV, doc, pm, an, cdv, ct, osl, rfl, lk, hcd⟩ := F.ex
  refine bodyG lk hcd S (fun vs H Q E ⟨xs, m, q, h1, _, h3, _⟩ => by rw [← h1.length]; exact len xs m q h3) fun A o s H vs Q E hr hg ⟨xs, m, q, h1, h2, h3, h4⟩ => ?_
  obtain ⟨t, ht, go⟩ := hb cdv A o s H E hr hg
  have fin : KE K H (fun v m' => Fin K q v m') Q := fun v m' u H' l g r ⟨m2, z1, z2⟩ => h4 v m2 u H' l (z1 _ g) r z2
  obtain ⟨m1, g1, z⟩ := go H xs m q h3 h2
  exact ⟨_, ht.nox, startA N xs, m1, _, start_sim h1, g1, z, ⟨fun t' m' σ' H' l s g z => fin .non m' .non H' l g .non z, fin, fun _ _ _ _ _ _ _ z => z.elim, fun _ _ _ _ _ _ _ z => z.elim⟩⟩
theorem okA {P : Program} {w : World} {K : PySem.W.Frag} {mg : Str → Option Value} {base : Heap} {x qual : Str} {st : Stmt} {f : Addr} {fd : FuncData} {N ps : List Str} {k : Nat} {sp : ASp} (F : Fun K x qual st f fd) (S : FnScope N ps (defScope st))
    (len : ∀ xs m q, sp xs m q → xs.length = ps.length)
    (hb : ∀ (cdv : Value) (A : Around) (o : List Env) (s : Shared) (H : Hp) (E : XK), Room k (A.deeper (envOfC qual (defScope st) s.heap.objs.size f cdv)) → A.guards = some [] →
      ∃ t, ASs (cxOf CX0 P w K mg base N qual (defScope st) f cdv A o s H E).nox (defBody st) t ∧ ∀ xs m q, sp xs m q → Own m → t ⟨fun _ m' => Fin K q .non m', fun v m' => Fin K q v m', fun _ _ => False, fun _ _ => False⟩ (startA N xs) m) : AFn P w K mg base (k + 1) f fd ps sp :=
  okB F S len fun cdv A o s H E hr hg => let ⟨t, ht, go⟩ := hb cdv A o s H E hr hg; ⟨t, ht, fun H xs m q h g => ⟨m, g, go xs m q h g.own⟩⟩
end Ab

set_option maxHeartbeats 1000000
namespace Ab
open PySem PySem.Spec PyProof.Rows L2

mutual
def toD : AV → PyData
  | .non => .none
  | .bl b => .bool b
  | .int i => .int i
  | .str x => .str x
  | .tup xs => .tuple (toDs xs)
  | .ref _ => .none
  | .ty _ => .none
  | .scr _ => .none
def toDs : List AV → List PyData
  | [] => []
  | x :: xs => toD x :: toDs xs
end
mutual
def pureV : AV → Bool
  | .non => true
  | .bl _ => true
  | .int _ => true
  | .str _ => true
  | .tup xs => pureVs xs
  | .ref _ => false
  | .ty _ => false
  | .scr _ => false
def pureVs : List AV → Bool
  | [] => true
  | x :: xs => pureV x && pureVs xs
end
def eqA (x y : AV) : Bool := PyData.eqv (toD x) (toD y)
def canA (x : AV) : Bool := pureV x && (toD x).canLay0
def canAs (xs : List AV) : Bool := pureVs xs && PyData.canLayAll0 (toDs xs)
section
variable {K : PySem.W.Frag} {H : Hp}
mutual
theorem SimV.dp : ∀ {x : AV} {v : V}, SimV K H x v → pureV x = true → Dp K H v (toD x)
  | _, _, .non, _ => by simp only [toD]; exact .non
  | _, _, .bl b, _ => by simp only [toD]; exact .bl b
  | _, _, .int i, _ => by simp only [toD]; exact .int i
  | _, _, .str x, _ => by simp only [toD]; exact .str x
  | _, _, .tup h hs, p => by
    simp only [toD]
    exact .tup h (SimVs.dp hs (by simpa only [pureV] using p))
  | _, _, .ref a, p => by simp [pureV] at p
  | _, _, .ty n, p => by simp [pureV] at p
  | _, _, .scr h, p => by simp [pureV] at p
theorem SimVs.dp : ∀ {xs : List AV} {vs : List V}, SimVs K H xs vs → pureVs xs = true → DpAll K H vs (toDs xs)
  | _, _, .nil, _ => by simp only [toDs]; exact .nil
  | _, _, .cons h hs, p => by
    simp only [toDs]
    simp only [pureVs, Bool.and_eq_true] at p
    exact .cons (SimV.dp h p.1) (SimVs.dp hs p.2)
end
end
theorem toDs_len : ∀ xs : List AV, (toDs xs).length = xs.length
  | [] => by simp only [toDs, List.length_nil]
  | x :: xs => by simp only [toDs, List.length_cons, toDs_len xs]

section
variable {X : Cx}
def bInt (g : Int → Int → AV) (C : Int → Int → Prop) : AR2 := fun x y m q => match x, y with
  | .int i, .int j => C i j ∧ q (g i j) m
  | _, _ => False
theorem ob_int {f : Value → Value → Sem Value} {C : Int → Int → Prop} {g : Int → Int → V} {g' : Int → Int → AV} (h : OpR X f (rI C g)) (hg : ∀ H i j, SimV X.K H (g' i j) (g i j)) : OpR X f (cl2 X.K (bInt g' C)) := by
  intro pins s σ H v w u1 u2 Q I r1 r2 ⟨x, y, m, q, s1, s2, g1, z, k⟩
  cases x <;> cases y <;> first | exact z.elim | skip
  cases s1; cases s2
  exact h pins s σ H _ _ u1 u2 Q I r1 r2 ⟨_, _, rfl, rfl, z.1, k _ _ _ _ .refl g1 (hg _ _ _) z.2⟩
theorem rI0_I {f : Value → Value → Sem Value} {g : Int → Int → V} (h : OpR X f (rI0 g)) : OpR X f (rI (fun _ _ => True) g) := fun pins s σ H v w u1 u2 Q I r1 r2 ⟨i, j, e1, e2, _, q⟩ => h pins s σ H v w u1 u2 Q I r1 r2 ⟨i, j, e1, e2, q⟩
def bSub : AR2 := fun x y m q => match x, y with
  | .int i, .int j => q (.int (i - j)) m
  | _, _ => False
theorem ob_sub : OpR X (binaryOp .Sub) (cl2 X.K bSub) := by
  intro pins s σ H v w u1 u2 Q I r1 r2 ⟨x, y, m, q, s1, s2, g1, z, k⟩
  cases x <;> cases y <;> first | exact z.elim | skip
  cases s1; cases s2
  exact op_sub pins s σ H _ _ u1 u2 Q I r1 r2 ⟨_, _, rfl, rfl, k _ _ _ _ .refl g1 (.int _) z⟩
theorem ob_isub : OpR X (inplaceOp .Sub) (cl2 X.K bSub) := by
  intro pins s σ H v w u1 u2 Q I r1 r2 ⟨x, y, m, q, s1, s2, g1, z, k⟩
  cases x <;> cases y <;> first | exact z.elim | skip
  cases s1; cases s2
  exact iop_sub pins s σ H _ _ u1 u2 Q I r1 r2 ⟨_, _, rfl, rfl, k _ _ _ _ .refl g1 (.int _) z⟩
abbrev bMul : AR2 := bInt (fun i j => .int (i * j)) CMul
abbrev bFdiv : AR2 := bInt (fun i j => .int (i / j)) CDiv
abbrev bMod : AR2 := bInt (fun i j => .int (i % j)) (fun _ j => 0 < j)
abbrev bPow : AR2 := bInt (fun i j => .int (i ^ j.toNat)) CPow
theorem ob_mul : OpR X (binaryOp .Mult) (cl2 X.K bMul) := ob_int op_mul fun _ _ _ => .int _
theorem ob_fdiv : OpR X (binaryOp .FloorDiv) (cl2 X.K bFdiv) := ob_int op_fdiv fun _ _ _ => .int _
theorem ob_mod : OpR X (binaryOp .Mod) (cl2 X.K bMod) := ob_int op_mod fun _ _ _ => .int _
theorem ob_pow : OpR X (binaryOp .Pow) (cl2 X.K bPow) := ob_int op_pow fun _ _ _ => .int _
abbrev bLt : AR2 := bInt (fun i j => .bl (decide (i < j))) (fun _ _ => True)
abbrev bLe : AR2 := bInt (fun i j => .bl (decide (i ≤ j))) (fun _ _ => True)
abbrev bGt : AR2 := bInt (fun i j => .bl (decide (j < i))) (fun _ _ => True)
abbrev bGe : AR2 := bInt (fun i j => .bl (decide (j ≤ i))) (fun _ _ => True)
theorem ob_lt : OpR X (compareOp .Lt) (cl2 X.K bLt) := ob_int (rI0_I op_lt) fun _ _ _ => .bl _
theorem ob_le : OpR X (compareOp .LtE) (cl2 X.K bLe) := ob_int (rI0_I op_le) fun _ _ _ => .bl _
theorem ob_gt : OpR X (compareOp .Gt) (cl2 X.K bGt) := ob_int (rI0_I op_gt) fun _ _ _ => .bl _
theorem ob_ge : OpR X (compareOp .GtE) (cl2 X.K bGe) := ob_int (rI0_I op_ge) fun _ _ _ => .bl _
def bAdd : AR2 := fun x y m q => match x, y with
  | .int i, .int j => q (.int (i + j)) m
  | .str a, .str b => a.length + b.length ≤ sizeLine ∧ q (.str (a ++ b)) m
  | .tup a, .tup b => a.length + b.length ≤ sizeLine ∧ q (.tup (a ++ b)) m
  | .ref a, .ref b => match m a, m b with
    | some (.lst xs), some (.lst ys) => xs.length + ys.length ≤ sizeLine ∧ ∀ p, m p = none → q (.ref p) (updA m p (.lst (xs ++ ys)))
    | _, _ => False
  | _, _ => False
theorem ob_add : OpR X (binaryOp .Add) (cl2 X.K bAdd) := by
  intro pins s σ H v w u1 u2 Q I r1 r2 ⟨x, y, m, q, s1, s2, g1, z, k⟩
  cases x <;> cases y <;> first | exact z.elim | skip
  · cases s1; cases s2
    exact op_add pins s σ H _ _ u1 u2 Q I r1 r2 ⟨_, _, rfl, rfl, k _ _ _ _ .refl g1 (.int _) z⟩
  · cases s1; cases s2
    exact op_add_str pins s σ H _ _ u1 u2 Q I r1 r2 ⟨_, _, rfl, rfl, z.1, k _ _ _ _ .refl g1 (.str _) z.2⟩
  · rename_i xs ys
    cases s1 with
    | tup f1 f2 =>
      cases s2 with
      | tup f3 f4 =>
        rename_i a va b vb
        have l1 := f2.length
        have l2 := f4.length
        refine op_catA pins s σ H _ _ u1 u2 Q I r1 r2 ⟨a, b, va, vb, rfl, rfl, f1, f3, by rw [← l1, ← l2]; exact z.1, fun e => ?_, fun _ e => ?_, fun _ _ p hp => ?_⟩
        · subst e
          cases f2
          exact k _ _ _ _ .refl g1 (.tup f3 f4) z.2
        · subst e
          cases f4
          have z2 := z.2
          rw [List.append_nil] at z2
          exact k _ _ _ _ .refl g1 (.tup f1 f2) z2
        · exact k.newT g1 (f2.append f4) hp z.2
  · rename_i a b
    cases s1; cases s2
    have z : (match m a, m b with | some (.lst xs), some (.lst ys) => xs.length + ys.length ≤ sizeLine ∧ ∀ p, m p = none → q (.ref p) (updA m p (.lst (xs ++ ys))) | _, _ => False) := z
    split at z
    · rename_i xs ys e1 e2
      obtain ⟨va, f1, f2⟩ := g1 a _ e1
      obtain ⟨vb, f3, f4⟩ := g1 b _ e2
      have l1 := f2.length
      have l2 := f4.length
      exact op_cat pins s σ H _ _ u1 u2 Q I r1 r2 ⟨a, b, va, vb, rfl, rfl, f1, f3, by rw [← l1, ← l2]; exact z.1, fun p hp => k.newL g1 (f2.append f4) hp z.2⟩
    · exact z.elim
def bIAdd : AR2 := fun x y m q => match x, y with
  | .int i, .int j => q (.int (i + j)) m
  | .str a, .str b => a.length + b.length ≤ sizeLine ∧ q (.str (a ++ b)) m
  | _, _ => False
theorem ob_iadd : OpR X (inplaceOp .Add) (cl2 X.K bIAdd) := by
  intro pins s σ H v w u1 u2 Q I r1 r2 ⟨x, y, m, q, s1, s2, g1, z, k⟩
  cases x <;> cases y <;> first | exact z.elim | skip
  · cases s1; cases s2
    exact iop_add pins s σ H _ _ u1 u2 Q I r1 r2 ⟨_, _, rfl, rfl, k _ _ _ _ .refl g1 (.int _) z⟩
  · cases s1; cases s2
    exact iop_add_str pins s σ H _ _ u1 u2 Q I r1 r2 ⟨_, _, rfl, rfl, z.1, k _ _ _ _ .refl g1 (.str _) z.2⟩
def bNeg : AV → AHp → AK → Prop := fun x m q => match x with
  | .int i => q (.int (-i)) m
  | _ => False
theorem ub_neg : UnR X (unaryOp .USub) (cl1 X.K bNeg) := by
  intro pins s σ H v u Q I r ⟨x, m, q, s1, g, z, k⟩
  cases x <;> first | exact z.elim | skip
  cases s1
  exact un_neg pins s σ H _ u Q I r ⟨_, rfl, k _ _ _ _ .refl g (.int _) z⟩

def bEqB (f : Bool → Bool) : AR2 := fun x y m q => match x, y with
  | .int i, .int j => q (.bl (f (decide (i = j)))) m
  | .str a, .str b => q (.bl (f (decide (a = b)))) m
  | .bl a, .bl b => q (.bl (f (decide (a = b)))) m
  | .ref a, .ref b => match m a, m b with
    | some (.lst xs), some (.lst ys) => if xs.length = ys.length then canAs xs = true ∧ canAs ys = true ∧ min (PyData.depthAll (toDs xs)) (PyData.depthAll (toDs ys)) ≤ 100 ∧ q (.bl (f (PyData.eqvAll (toDs xs) (toDs ys)))) m else q (.bl (f false)) m
    | _, _ => False
  | x, y => canA x = true ∧ canA y = true ∧ min (toD x).depth (toD y).depth ≤ 100 ∧ q (.bl (f (eqA x y))) m
abbrev bEq : AR2 := bEqB id
abbrev bNe : AR2 := bEqB not
theorem eq_data {pins : List (Addr × Obj)} {s : Shared} {σ : L2.St} {H : Hp} {v w : V} {u1 u2 : Value} {x y : AV} (I : Inv X pins σ H s) (hu : X.A.units + 164 < cLine) (r1 : RelV v u1) (r2 : RelV w u2) (s1 : SimV X.K H x v) (s2 : SimV X.K H y w)
    (c1 : canA x = true) (c2 : canA y = true) (hm : min (toD x).depth (toD y).depth ≤ 100) (E : Value → Shared → Prop) (Q : Value → Shared → Prop) :
    (Q (.bool (eqA x y)) s → wpAny (model X.prog X.w) X.A (compareOp .Eq u1 u2) Q E s) ∧ (Q (.bool (!eqA x y)) s → wpAny (model X.prog X.w) X.A (compareOp .NotEq u1 u2) Q E s) := by
  unfold canA at c1 c2
  rw [Bool.and_eq_true] at c1 c2
  obtain ⟨as, d1⟩ := Dp.reads I _ v u1 (s1.dp c1.1) r1
  obtain ⟨bs, d2⟩ := Dp.reads I _ w u2 (s2.dp c2.1) r2
  exact ⟨fun h => SeqAt.compareEq_reads d1 d2 c1.2 c2.2 (by omega) h, fun h => SeqAt.compareNe_reads d1 d2 c1.2 c2.2 (by omega) h⟩
theorem eq_lists {pins : List (Addr × Obj)} {s : Shared} {σ : L2.St} {H : Hp} {a b : Addr} {m : AHp} {xs ys : List AV} (I : Inv X pins σ H s) (hu : X.A.units + 164 < cLine) (g : SimH X.K H m) (e1 : m a = some (.lst xs)) (e2 : m b = some (.lst ys))
    (E : Value → Shared → Prop) (Q : Bool → Prop) (h : if xs.length = ys.length then canAs xs = true ∧ canAs ys = true ∧ min (PyData.depthAll (toDs xs)) (PyData.depthAll (toDs ys)) ≤ 100 ∧ Q (PyData.eqvAll (toDs xs) (toDs ys)) else Q false)
    (P : Value → Shared → Prop) : ((∀ c, Q c → P (.bool c) s) → wpAny (model X.prog X.w) X.A (compareOp .Eq (.ref a) (.ref b)) P E s) ∧ ((∀ c, Q c → P (.bool (!c)) s) → wpAny (model X.prog X.w) X.A (compareOp .NotEq (.ref a) (.ref b)) P E s) := by
  obtain ⟨va, f1, f2⟩ := g a _ e1
  obtain ⟨vb, f3, f4⟩ := g b _ e2
  have l1 := f2.length
  have l2 := f4.length
  by_cases hl : xs.length = ys.length
  · rw [if_pos hl] at h
    obtain ⟨c1, c2, hm, q⟩ := h
    unfold canAs at c1 c2
    rw [Bool.and_eq_true] at c1 c2
    obtain ⟨as, d1⟩ := Dp.reads I (.list (toDs xs)) (.ref a) (.ref a) (.lst (SqL.of f1) (f2.dp c1.1)) rfl
    obtain ⟨bs, d2⟩ := Dp.reads I (.list (toDs ys)) (.ref b) (.ref b) (.lst (SqL.of f3) (f4.dp c2.1)) rfl
    have hd : X.A.units + min (PyData.list (toDs xs)).depth (PyData.list (toDs ys)).depth < cLine := by
      simp only [PyData.depth]
      omega
    have ee : PyData.eqv (.list (toDs xs)) (.list (toDs ys)) = PyData.eqvAll (toDs xs) (toDs ys) := by simp only [PyData.eqv]
    refine ⟨fun k => SeqAt.compareEq_reads d1 d2 (by simpa only [PyData.canLay0] using c1.2) (by simpa only [PyData.canLay0] using c2.2) hd (by rw [ee]; exact k _ q), fun k => SeqAt.compareNe_reads d1 d2 (by simpa only [PyData.canLay0] using c1.2) (by simpa only [PyData.canLay0] using c2.2) hd (by rw [ee]; exact k _ q)⟩
  · rw [if_neg hl] at h
    obtain ⟨its, r, p, hz⟩ := I.list (SqL.of f1)
    obtain ⟨its', r', p', hz'⟩ := I.list (SqL.of f3)
    have n1 := r.length
    have n2 := r'.length
    have hne : (its.toArray.size != its'.toArray.size) = true := by
      rw [List.size_toArray, List.size_toArray, bne_iff_ne]
      omega
    have hu' : X.A.units < cLine := by omega
    exact ⟨fun k => SeqAt.eq_list_lengthsAt p.isList p'.isList hne hu' (k _ h), fun k => SeqAt.RcNeAt.lists_lengths p.isList p'.isList hne hu' X.prog X.w E P (k _ h)⟩
theorem eqA_int (i j : Int) : eqA (.int i) (.int j) = decide (i = j) := by
  unfold eqA
  simp only [toD, PyData.eqv]
  exact Bool.beq_eq_decide_eq i j
theorem ob_eqB {f : Bool → Bool} {op : CmpOp} (hop : (op = .Eq ∧ f = id) ∨ (op = .NotEq ∧ f = not)) (hu : X.A.units + 164 < cLine) : OpR X (compareOp op) (cl2 X.K (bEqB f)) := by
  intro pins s σ H v w u1 u2 Q I r1 r2 ⟨x, y, m, q, s1, s2, g, z, k⟩
  have fin : ∀ b, q (.bl b) m → EP X pins σ Q (.bool b) s := fun b z => ⟨.bl b, H, I, rfl, k _ _ _ _ .refl g (.bl b) z⟩
  have scal : ∀ {P : Prop} [Decidable P] (a b : V), L2.scal a b = true → (decide (a = b) = decide P) → RelV a u1 → RelV b u2 → q (.bl (f (decide P))) m → wpAny (model X.prog X.w) X.A (compareOp op u1 u2) (EP X pins σ Q) X.xe s := by
    intro P _ a b sc e ra rb z
    rcases hop with ⟨rfl, rfl⟩ | ⟨rfl, rfl⟩
    · exact op_eq pins s σ H a b u1 u2 Q I ra rb ⟨sc, by rw [e]; exact k _ _ _ _ .refl g (.bl _) z⟩
    · exact op_ne pins s σ H a b u1 u2 Q I ra rb ⟨sc, by rw [e]; exact k _ _ _ _ .refl g (.bl _) z⟩
  have data : canA x = true ∧ canA y = true ∧ min (toD x).depth (toD y).depth ≤ 100 ∧ q (.bl (f (eqA x y))) m → wpAny (model X.prog X.w) X.A (compareOp op u1 u2) (EP X pins σ Q) X.xe s := by
    rintro ⟨c1, c2, hm, z⟩
    have h := eq_data I hu r1 r2 s1 s2 c1 c2 hm X.xe (EP X pins σ Q)
    rcases hop with ⟨rfl, rfl⟩ | ⟨rfl, rfl⟩
    · exact h.1 (fin _ z)
    · exact h.2 (fin _ z)
  cases x <;> cases y <;> first | exact data z | skip
  · cases s1; cases s2
    refine scal _ _ rfl ?_ r1 r2 z
    congr 1
    exact propext ⟨fun e => V.bl.inj e, fun e => congrArg V.bl e⟩
  · cases s1; cases s2
    refine scal _ _ rfl ?_ r1 r2 z
    congr 1
    exact propext ⟨fun e => V.int.inj e, fun e => congrArg V.int e⟩
  · cases s1; cases s2
    refine scal _ _ rfl ?_ r1 r2 z
    congr 1
    exact propext ⟨fun e => V.str.inj e, fun e => congrArg V.str e⟩
  · rename_i a b
    cases s1; cases s2
    cases r1; cases r2
    have z : (match m a, m b with | some (.lst xs), some (.lst ys) => (if xs.length = ys.length then canAs xs = true ∧ canAs ys = true ∧ min (PyData.depthAll (toDs xs)) (PyData.depthAll (toDs ys)) ≤ 100 ∧ q (.bl (f (PyData.eqvAll (toDs xs) (toDs ys)))) m else q (.bl (f false)) m) | _, _ => False) := z
    split at z
    · rename_i xs ys e1 e2
      have h := eq_lists (X := X) I hu g e1 e2 X.xe (fun c => q (.bl (f c)) m) z (EP X pins σ Q)
      rcases hop with ⟨rfl, rfl⟩ | ⟨rfl, rfl⟩
      · exact h.1 fun c z => fin _ z
      · exact h.2 fun c z => fin _ z
    · exact z.elim
theorem ob_eq (hu : X.A.units + 164 < cLine) : OpR X (compareOp .Eq) (cl2 X.K bEq) := ob_eqB (.inl ⟨rfl, rfl⟩) hu
theorem ob_ne (hu : X.A.units + 164 < cLine) : OpR X (compareOp .NotEq) (cl2 X.K bNe) := ob_eqB (.inr ⟨rfl, rfl⟩) hu
def bIsB (f : Bool → Bool) : AR2 := fun x y m q => match y with
  | .non => match x with
    | .non => q (.bl (f true)) m
    | .tup _ => q (.bl (f false)) m
    | .ref _ => q (.bl (f false)) m
    | .int _ => q (.bl (f false)) m
    | .str _ => q (.bl (f false)) m
    | .bl _ => q (.bl (f false)) m
    | _ => False
  | .bl b => match x with
    | .bl a => q (.bl (f (decide (a = b)))) m
    | _ => False
  | _ => False
abbrev bIs : AR2 := bIsB id
abbrev bIsNot : AR2 := bIsB not
theorem ob_isB {f : Bool → Bool} {op : CmpOp} (hop : (op = .Is ∧ f = id) ∨ (op = .IsNot ∧ f = not)) : OpR X (compareOp op) (cl2 X.K (bIsB f)) := by
  intro pins s σ H v w u1 u2 Q I r1 r2 ⟨x, y, m, q, s1, s2, g, z, k⟩
  have nn : ∀ c, decide (v = V.non) = c → w = .non → q (.bl (f c)) m → wpAny (model X.prog X.w) X.A (compareOp op u1 u2) (EP X pins σ Q) X.xe s := by
    intro c e hw z
    rcases hop with ⟨rfl, rfl⟩ | ⟨rfl, rfl⟩
    · exact op_isN pins s σ H v w u1 u2 Q I r1 r2 ⟨hw, by rw [e]; exact k _ _ _ _ .refl g (.bl _) z⟩
    · exact op_notN pins s σ H v w u1 u2 Q I r1 r2 ⟨hw, by rw [e]; exact k _ _ _ _ .refl g (.bl _) z⟩
  cases y <;> first | exact z.elim | skip
  · cases s2
    cases x <;> first | exact z.elim | skip
    all_goals (cases s1; exact nn _ (by simp) rfl z)
  · cases s2
    cases x <;> first | exact z.elim | skip
    cases s1
    rcases hop with ⟨rfl, rfl⟩ | ⟨rfl, rfl⟩
    · exact op_isBl pins s σ H _ _ u1 u2 Q I r1 r2 ⟨_, _, rfl, rfl, k _ _ _ _ .refl g (.bl _) z⟩
    · exact op_notBl pins s σ H _ _ u1 u2 Q I r1 r2 ⟨_, _, rfl, rfl, k _ _ _ _ .refl g (.bl _) z⟩
theorem ob_is : OpR X (compareOp .Is) (cl2 X.K bIs) := ob_isB (.inl ⟨rfl, rfl⟩)
theorem ob_isNot : OpR X (compareOp .IsNot) (cl2 X.K bIsNot) := ob_isB (.inr ⟨rfl, rfl⟩)

theorem at_sim {K : PySem.W.Frag} {H : Hp} {xs : List AV} {vs : List V} {i : Int} {x : AV} (h : SimVs K H xs vs) (e : atI xs i = some x) : ∃ v, atI vs i = some v ∧ SimV K H x v := by
  unfold atI at e ⊢
  rw [← h.length]
  cases q : ixN xs.length i with
  | none => rw [q] at e; cases e
  | some j =>
    rw [q] at e
    exact h.get e
def keyOf : AV → Option Key
  | .int i => some (.inl i)
  | .str x => some (.inr x)
  | _ => none
def getK (kvs : List (Key × AV)) (k : Key) : Option AV := (kvs.find? fun kv => decide (kv.1 = k)).map (·.2)
theorem getK_sim {K : PySem.W.Frag} {H : Hp} {k : Key} : ∀ {kvs : List (Key × AV)} {ws : List (Key × V)}, SimK K H kvs ws → match getK kvs k with
    | some x => ∃ v, valV ws k = some v ∧ SimV K H x v
    | none => valV ws k = none
  | _, _, .nil => rfl
  | (a, x) :: r, (b, v) :: r', .cons h hs => by
    obtain ⟨e, s⟩ := h
    have e : a = b := e
    subst e
    have ih := getK_sim (k := k) hs
    unfold getK valV at ih ⊢
    by_cases hk : a = k
    · rw [List.find?_cons_of_pos (by simp [hk]), List.find?_cons_of_pos (by simp [hk])]
      exact ⟨v, rfl, s⟩
    · rw [List.find?_cons_of_neg (by simp [hk]), List.find?_cons_of_neg (by simp [hk])]
      exact ih
theorem key_sim {K : PySem.W.Frag} {H : Hp} {x : AV} {v : V} {k : Key} (h : SimV K H x v) (e : keyOf x = some k) : v = kV k := by
  cases x <;> first | (cases e; done) | skip
  all_goals (cases h; cases e; rfl)
def bIx : AR2 := fun x y m q => match x with
  | .tup xs => match y with
    | .int i => match atI xs i with
      | some v => q v m
      | none => False
    | _ => False
  | .str z => match y with
    | .int i => match atI z.cps.toList i with
      | some c => z.length ≤ sizeLine ∧ q (.str ⟨#[c]⟩) m
      | none => False
    | _ => False
  | .ref a => match m a with
    | some (.lst xs) => match y with
      | .int i => match atI xs i with
        | some v => q v m
        | none => False
      | _ => False
    | some (.dK kvs) => match keyOf y with
      | some k => match getK kvs k with
        | some v => q v m
        | none => False
      | none => False
    | _ => False
  | _ => False
theorem tail_of {prog : Program} {w : World} {A : Around} {E : Value → Shared → Prop} {s : Shared} {value slice : Expr} {o i : Value} {T id : String} {Q : Value → Shared → Prop} (ty : s.TypeIs o T)
    (look : typeLookup (.type T) "__getitem__" = pure (some (.builtin id))) (h : wpAny (model prog w) A (getItem o i) Q E s) (plain : subscripted slice false o i = operate [o, i] (getItem o i)) : wpAny (model prog w) A (subscriptTail value slice o i) Q E s := by
  unfold subscriptTail
  apply wpAny_bind
  rw [getitemInPython_of_ne ty.not_modules]
  apply wpAny_bind
  apply wpAny_specialOf ty look
  have last : wpAny (model prog w) A (subscripted slice false o i) (fun r s3 => wpAny (model prog w) A (letTemporaryGo value o r >>= fun _ => pure r) Q E s3) E s := by
    rw [plain]
    exact wpAny_operating (wpAny_mono h (fun r s3 z => wpAny_bind (wpAny_letTemporaryGo (wpAny_pure z))) (fun _ _ z => z))
  first
    | exact wpAny_pure (wpAny_bind last)
    | exact wpAny_bind (wpAny_pure (wpAny_bind last))
    | exact wpAny_bind last
theorem ix_dict (hu : X.A.units + 1 < cLine) : IxR X (fun x y H Q => ∃ a kvs k v, x = .ref a ∧ H a = some (.dK kvs) ∧ y = kV k ∧ valV kvs k = some v ∧ Q v H) := by
  intro value slice pins s σ H x y v u Q I rx ry ⟨a, kvs, k, r, e1, e2, e3, e4, q⟩ hs
  subst e1
  subst e3
  cases rx
  have G : DGet H a (kV k) (some r) := by
    rw [← e4]
    exact DGet.k e2
  exact tail_of (dict_typeIs I G) PySem.F.slot_dict_getitem.lookup (d_getItem hu I G ry fun w' s3 I3 rw' => ⟨r, H, I3, rw', q⟩) hs
theorem ob_ix (hu : X.A.units + 164 < cLine) : IxR X (cl2 X.K bIx) := by
  intro value slice pins s σ H v w u1 u2 Q I r1 r2 ⟨x, y, m, q, s1, s2, g, z, k⟩ hs
  unfold bIx at z
  cases x with
  | str zz =>
    cases s1
    cases y with
    | int i =>
      cases s2
      cases e : atI zz.cps.toList i with
      | none => simp only [e] at z
      | some c =>
        simp only [e] at z
        exact ix_str value slice pins s σ H _ _ u1 u2 Q I r1 r2 ⟨_, _, c, rfl, rfl, z.1, e, k _ _ _ _ .refl g (.str _) z.2⟩ hs
    | _ => exact z.elim
  | tup xs =>
    cases s1 with
    | tup f1 f2 =>
      cases y with
      | int i =>
        cases s2
        cases e : atI xs i with
        | none => simp only [e] at z
        | some c =>
          simp only [e] at z
          obtain ⟨v', e', s'⟩ := at_sim f2 e
          exact ix_tup value slice pins s σ H _ _ u1 u2 Q I r1 r2 ⟨_, _, _, v', rfl, rfl, f1, e', k _ _ _ _ .refl g s' z⟩ hs
      | _ => exact z.elim
  | ref a =>
    cases s1
    cases ea : m a with
    | none => simp only [ea] at z
    | some ob =>
      cases ob with
      | lst xs =>
        obtain ⟨ws, f1, f2⟩ := g a _ ea
        cases y with
        | int i =>
          cases s2
          cases e : atI xs i with
          | none => simp only [ea, e] at z
          | some c =>
            simp only [ea, e] at z
            obtain ⟨v', e', s'⟩ := at_sim f2 e
            exact ix_list value slice pins s σ H _ _ u1 u2 Q I r1 r2 ⟨_, _, _, v', rfl, rfl, SqL.of f1, e', k _ _ _ _ .refl g s' z⟩ hs
        | _ => simp only [ea] at z
      | dK kvs =>
        obtain ⟨ws, f1, f2⟩ := g a _ ea
        cases ek : keyOf y with
        | none => simp only [ea, ek] at z
        | some kk =>
          have hk := key_sim s2 ek
          subst hk
          have hg := getK_sim (k := kk) f2
          cases eg : getK kvs kk with
          | none => simp only [ea, ek, eg] at z
          | some v =>
            simp only [ea, ek, eg] at z
            simp only [eg] at hg
            obtain ⟨v', e', s'⟩ := hg
            exact ix_dict (by omega) value slice pins s σ H _ _ u1 u2 Q I r1 r2 ⟨a, ws, kk, v', rfl, f1, rfl, e', k _ _ _ _ .refl g s' z⟩ hs
      | _ => simp only [ea] at z
  | _ => exact z.elim
def cutA (xs : List AV) (lo hi : Option Int) : List AV := (xs.drop (HT.sIx xs.length 0 lo)).take (HT.sIx xs.length xs.length hi - HT.sIx xs.length 0 lo)
theorem cut_sim {K : PySem.W.Frag} {H : Hp} {xs : List AV} {vs : List V} {lo hi : Option Int} (h : SimVs K H xs vs) : SimVs K H (cutA xs lo hi) (cutV vs lo hi) := by
  unfold cutA cutV
  rw [h.length]
  exact (h.drop _).take _
theorem cut_all {xs : List V} {lo hi : Option Int} (h : HT.sIx xs.length 0 lo = 0 ∧ HT.sIx xs.length xs.length hi = xs.length) : cutV xs lo hi = xs := by
  unfold cutV
  rw [h.1, h.2, List.drop_zero, Nat.sub_zero, List.take_length]
def bSl : ARS := fun x lo hi m q => match x with
  | .tup xs => q (.tup (cutA xs lo hi)) m
  | .str z => z.length ≤ sizeLine ∧ q (.str (cutS z lo hi)) m
  | .ref a => match m a with
    | some (.lst xs) => ∀ p, m p = none → q (.ref p) (updA m p (.lst (cutA xs lo hi)))
    | _ => False
  | .scr ns => ∀ p, m p = none → q (.ref p) (updA m p (.lst (cutA (ns.map AV.int) lo hi)))
  | _ => False
theorem sb_sl : SlR X (clSl X.K bSl) := by
  intro pins s σ H x v vl vu lo hi sl Q I rx hs pl pu ⟨t, m, q, s1, g, z, k⟩
  cases t <;> first | exact z.elim | skip
  · cases s1
    exact sl_str pins s σ H _ v vl vu lo hi sl Q I rx hs pl pu ⟨_, rfl, z.1, k _ _ _ _ .refl g (.str _) z.2⟩
  · rename_i xs
    cases s1 with
    | tup f1 f2 =>
      refine sl_tupA pins s σ H _ v vl vu lo hi sl Q I rx hs pl pu ⟨_, _, rfl, f1, fun e => ?_, fun _ p hp => k.newT g (cut_sim f2) hp z⟩
      have e2 := cut_sim (lo := lo) (hi := hi) f2
      rw [cut_all e] at e2
      exact k _ _ _ _ .refl g (.tup f1 e2) z
  · rename_i a
    cases s1
    have z : (match m a with | some (.lst xs) => ∀ p, m p = none → q (.ref p) (updA m p (.lst (cutA xs lo hi))) | _ => False) := z
    split at z
    · rename_i xs e1
      obtain ⟨ws, f1, f2⟩ := g a _ e1
      exact sl_list pins s σ H _ v vl vu lo hi sl Q I rx hs pl pu ⟨_, _, rfl, SqL.of f1, fun p hp => k.newL g (cut_sim f2) hp z⟩
    · exact z.elim
  · rename_i ns
    cases s1 with
    | scr f1 => exact sl_list pins s σ H _ v vl vu lo hi sl Q I rx hs pl pu ⟨_, _, rfl, f1.1, fun p hp => k.newL g (cut_sim SimVs.of_ints) hp z⟩
end

section
variable {X : Cx}
theorem SimH.lstPut {K : PySem.W.Frag} {H : Hp} {m : AHp} {l : Addr} {xs ys : List AV} {ws us : List V} (g : SimH K H m) (e : m l = some (.lst xs)) (f : H l = some (.lst ws)) (r : SimVs K H ys us) : SimH K (upd H l (.lst us)) (updA m l (.lst ys)) :=
  g.put (.lst f) (fun b u hb e => by rw [upd_ne hb]; exact e) (.lst ys) (fun b z => by rw [e] at z; cases z) ⟨_, upd_same, r.mono (.lst f)⟩
def putA (kvs : List (Key × AV)) (k : Key) (v : AV) : List (Key × AV) :=
  if (kvs.any fun kv => decide (kv.1 = k)) = true then kvs.map (fun kv => if kv.1 = k then (kv.1, v) else kv) else kvs ++ [(k, v)]
theorem any_sim {K : PySem.W.Frag} {H : Hp} {k : Key} : ∀ {kvs : List (Key × AV)} {ws : List (Key × V)}, SimK K H kvs ws → (kvs.any fun kv => decide (kv.1 = k)) = (ws.any fun kv => decide (kv.1 = k))
  | _, _, .nil => rfl
  | (a, x) :: r, (b, v) :: r', .cons h hs => by
    obtain ⟨e, s⟩ := h
    have e : a = b := e
    subst e
    rw [List.any_cons, List.any_cons, any_sim hs]
theorem put_map {K : PySem.W.Frag} {H : Hp} {k : Key} {x : AV} {v : V} (r : SimV K H x v) : ∀ {kvs : List (Key × AV)} {ws : List (Key × V)}, SimK K H kvs ws → SimK K H (kvs.map fun kv => if kv.1 = k then (kv.1, x) else kv) (ws.map fun kv => if kv.1 = k then (kv.1, v) else kv)
  | _, _, .nil => .nil
  | (a, y) :: _, (b, u) :: _, .cons h hs => by
    obtain ⟨e, s⟩ := h
    have e : a = b := e
    subst e
    rw [List.map_cons, List.map_cons]
    refine .cons ?_ (put_map r hs)
    by_cases hk : a = k
    · rw [if_pos hk, if_pos hk]; exact ⟨rfl, r⟩
    · rw [if_neg hk, if_neg hk]; exact ⟨rfl, s⟩
theorem put_new {K : PySem.W.Frag} {H : Hp} {k : Key} {x : AV} {v : V} (r : SimV K H x v) : ∀ {kvs : List (Key × AV)} {ws : List (Key × V)}, SimK K H kvs ws → SimK K H (kvs ++ [(k, x)]) (ws ++ [(k, v)])
  | _, _, .nil => .cons ⟨rfl, r⟩ .nil
  | _, _, .cons h hs => .cons h (put_new r hs)
theorem putA_sim {K : PySem.W.Frag} {H : Hp} {k : Key} {x : AV} {v : V} {kvs : List (Key × AV)} {ws : List (Key × V)} (h : SimK K H kvs ws) (r : SimV K H x v) : SimK K H (putA kvs k x) (putK ws k v) := by
  unfold putA putK
  rw [any_sim h]
  split
  · exact put_map r h
  · exact put_new r h
theorem SimH.dictPut {K : PySem.W.Frag} {H : Hp} {m : AHp} {l : Addr} {xs ys : List (Key × AV)} {ws us : List (Key × V)} (g : SimH K H m) (e : m l = some (.dK xs)) (f : H l = some (.dK ws)) (r : SimK K H ys us) : SimH K (upd H l (.dK us)) (updA m l (.dK ys)) :=
  g.put (.dict f) (fun b u hb e => by rw [upd_ne hb]; exact e) (.dK ys) (fun b z => by rw [e] at z; cases z) ⟨_, upd_same, SimK.mono (.dict f) r⟩
def bSet : ATSet := fun x y z m q => match x with
  | .ref a => match m a with
    | some (.lst xs) => match y with
      | .int i => match ixN xs.length i with
        | some j => q (updA m a (.lst (xs.set j z)))
        | none => False
      | _ => False
    | some (.dK kvs) => match keyOf y with
      | some k => kvs.length < sizeLine ∧ q (updA m a (.dK (putA kvs k z)))
      | none => False
    | _ => False
  | _ => False
theorem st_set (hu : X.A.units + 164 < cLine) : PSet X (clSet X.K bSet) := by
  intro pins s σ H o i v ov iv u Q I ro ri rv ⟨x, y, z, m, q, s1, s2, s3, g, w, k⟩
  cases x with
  | ref a =>
    cases s1
    unfold bSet at w
    cases ea : m a with
    | none => simp only [ea] at w
    | some ob =>
      cases ob with
      | lst xs =>
        obtain ⟨ws, f1, f2⟩ := g a _ ea
        cases y with
        | int j =>
          cases s2
          cases ej : ixN xs.length j with
          | none => simp only [ea, ej] at w
          | some n =>
            simp only [ea, ej] at w
            exact set_list pins s σ H _ _ _ ov iv u Q I ro ri rv ⟨a, ws, j, n, rfl, rfl, f1, by rw [← f2.length]; exact ej, k _ _ (.lst f1) (g.lstPut ea f1 (f2.set s3 n)) w⟩
        | _ => simp only [ea] at w
      | dK kvs =>
        obtain ⟨ws, f1, f2⟩ := g a _ ea
        cases ek : keyOf y with
        | none => simp only [ea, ek] at w
        | some kk =>
          simp only [ea, ek] at w
          have hk := key_sim s2 ek
          subst hk
          cases ro
          have hl : kvs.length = ws.length := Paired.length f2
          exact d_setItem (by omega) I (DPut.k f1 (by rw [← hl]; exact w.1)) ri rv fun s' I' => ⟨_, I', k _ _ (.dict f1) (g.dictPut ea f1 (putA_sim f2 s3)) w.2⟩
      | _ => simp only [ea] at w
  | _ => exact w.elim

def tyL (x : AV) (m : AHp) : Prop := ∃ a xs, x = .ref a ∧ m a = some (.lst xs)
theorem tyL_V {K : PySem.W.Frag} (y : AV) (v : V) (m : AHp) (H : Hp) (g : SimH K H m) (r : SimV K H y v) (t : tyL y m) : tyV K "list" v H := by
  obtain ⟨a, xs, rfl, e⟩ := t
  cases r
  obtain ⟨ws, f1, f2⟩ := g a _ e
  exact .inl ⟨rfl, ws, SqL.of f1⟩
def bML (r : Addr → List AV → List AV → AHp → AK → Prop) : AV → List AV → AHp → AK → Prop := fun x xs m q => match x with
  | .ref a => match m a with
    | some (.lst ys) => r a ys xs m q
    | _ => False
  | _ => False
theorem bML_at {r : Addr → List AV → List AV → AHp → AK → Prop} {x : AV} {xs : List AV} {m : AHp} {q : AK} (h : bML r x xs m q) : ∃ a ys, x = .ref a ∧ m a = some (.lst ys) ∧ r a ys xs m q := by
  cases x <;> first | exact h.elim | skip
  rename_i a
  have h : (match m a with | some (.lst ys) => r a ys xs m q | _ => False) := h
  split at h
  · rename_i ys e; exact ⟨a, ys, rfl, e, h⟩
  · exact h.elim
def bAppend : AV → List AV → AHp → AK → Prop := fun x0 xs0 m0 q0 => bML (fun a ys xs m q => match xs with
  | [x] => ys.length < sizeLine ∧ q .non (updA m a (.lst (ys ++ [x])))
  | _ => False) x0 xs0 m0 q0
theorem mb_append : MtR X "list.append" (clM X.K bAppend) := by
  intro pins s σ H v vs u us Q I rv rvs ⟨x, xs, m, q, s1, s2, g, z, k⟩
  obtain ⟨a, ys, rfl, e, z⟩ := bML_at z
  match xs, s2, z with
  | [x], .cons r .nil, z =>
    cases s1
    obtain ⟨ws, f1, f2⟩ := g a _ e
    exact mt_append pins s σ H _ _ u us Q I rv rvs ⟨a, ws, _, rfl, rfl, f1, by rw [← f2.length]; exact z.1, k _ _ _ _ (.lst f1) (g.lstPut e f1 (f2.append (.cons r .nil))) .non z.2⟩
  | [], _, z => exact z.elim
  | _ :: _ :: _, _, z => exact z.elim
def bExtend : AV → List AV → AHp → AK → Prop := fun x0 xs0 m0 q0 => bML (fun a ys xs m q => match xs with
  | [.ref b] => match m b with
    | some (.lst zs) => ys.length + zs.length ≤ sizeLine ∧ q .non (updA m a (.lst (ys ++ zs)))
    | _ => False
  | _ => False) x0 xs0 m0 q0
theorem mb_extend : MtR X "list.extend" (clM X.K bExtend) := by
  intro pins s σ H v vs u us Q I rv rvs ⟨x, xs, m, q, s1, s2, g, z, k⟩
  obtain ⟨a, ys, rfl, e, z⟩ := bML_at z
  match xs, s2, z with
  | [], _, z => exact z.elim
  | y :: y2 :: yr, _, z => cases y <;> exact z.elim
  | [y], .cons r .nil, z =>
    cases y with
    | ref b =>
      cases r
      cases s1
      have z : (match m b with | some (.lst zs) => ys.length + zs.length ≤ sizeLine ∧ q .non (updA m a (.lst (ys ++ zs))) | _ => False) := z
      split at z
      · rename_i zs e2
        obtain ⟨ws, f1, f2⟩ := g a _ e
        obtain ⟨ws', f3, f4⟩ := g b _ e2
        exact mt_extend pins s σ H _ _ u us Q I rv rvs ⟨a, b, ws, ws', rfl, rfl, f1, f3, by rw [← f2.length, ← f4.length]; exact z.1, k _ _ _ _ (.lst f1) (g.lstPut e f1 (f2.append f4)) .non z.2⟩
      · exact z.elim
    | _ => exact z.elim
def bPop : AV → List AV → AHp → AK → Prop := fun x0 xs0 m0 q0 => bML (fun a ys xs m q => match xs with
  | [] => match ys.getLast? with
    | some y => q y (updA m a (.lst ys.dropLast))
    | none => False
  | [.int i] => match ixN ys.length i with
    | some j => match ys[j]? with
      | some y => -(2 ^ 63) ≤ i ∧ i < 2 ^ 63 ∧ q y (updA m a (.lst (ys.eraseIdx j)))
      | none => False
    | none => False
  | _ => False) x0 xs0 m0 q0
theorem SimVs.dropLast {K : PySem.W.Frag} {H : Hp} : ∀ {xs : List AV} {vs : List V}, SimVs K H xs vs → SimVs K H xs.dropLast vs.dropLast
  | _, _, .nil => .nil
  | _, _, .cons _ .nil => .nil
  | _, _, .cons h (.cons h2 hs) => .cons h (SimVs.dropLast (.cons h2 hs))
theorem mb_pop : MtR X "list.pop" (clM X.K bPop) := by
  intro pins s σ H v vs u us Q I rv rvs ⟨x, xs, m, q, s1, s2, g, z, k⟩
  obtain ⟨a, ys, rfl, e, z⟩ := bML_at z
  obtain ⟨ws, f1, f2⟩ := g a _ e
  cases s1
  match xs, s2, z with
  | [], .nil, z =>
    have z : (match ys.getLast? with | some y => q y (updA m a (.lst ys.dropLast)) | none => False) := z
    split at z
    · rename_i y e2
      rw [List.getLast?_eq_getElem?] at e2
      obtain ⟨w, g1, g2⟩ := f2.get e2
      exact mt_pop pins s σ H _ _ u us Q I rv rvs ⟨a, ws, w, rfl, rfl, f1, by rw [← f2.length]; exact g1, k _ _ _ _ (.lst f1) (g.lstPut e f1 f2.dropLast) (g2.mono (.lst f1)) z⟩
    · exact z.elim
  | [y], .cons r .nil, z =>
    cases y with
    | int i =>
      cases r
      have z : (match ixN ys.length i with | some j => (match ys[j]? with | some y => -(2 ^ 63) ≤ i ∧ i < 2 ^ 63 ∧ q y (updA m a (.lst (ys.eraseIdx j))) | none => False) | none => False) := z
      split at z
      · rename_i j e2
        split at z
        · rename_i y e3
          obtain ⟨w, g1, g2⟩ := f2.get e3
          exact mt_popAt pins s σ H _ _ u us Q I rv rvs ⟨a, ws, i, j, w, rfl, rfl, f1, z.1, z.2.1, by rw [← f2.length]; exact (ixN_seq e2).1, g1, k _ _ _ _ (.lst f1) (g.lstPut e f1 (f2.erase j)) (g2.mono (.lst f1)) z.2.2⟩
        · exact z.elim
      · exact z.elim
    | _ => exact z.elim
  | y :: y2 :: yr, _, z => cases y <;> exact z.elim
def bInsert : AV → List AV → AHp → AK → Prop := fun x0 xs0 m0 q0 => bML (fun a ys xs m q => match xs with
  | [.int i, y] => ys.length < sizeLine ∧ 0 ≤ i ∧ i < 2 ^ 63 ∧ q .non (updA m a (.lst (ys.take i.toNat ++ [y] ++ ys.drop i.toNat)))
  | _ => False) x0 xs0 m0 q0
theorem mb_insert : MtR X "list.insert" (clM X.K bInsert) := by
  intro pins s σ H v vs u us Q I rv rvs ⟨x, xs, m, q, s1, s2, g, z, k⟩
  obtain ⟨a, ys, rfl, e, z⟩ := bML_at z
  obtain ⟨ws, f1, f2⟩ := g a _ e
  cases s1
  match xs, s2, z with
  | [], _, z => exact z.elim
  | [y], _, z => cases y <;> exact z.elim
  | y :: y2 :: y3 :: yr, _, z => cases y <;> exact z.elim
  | [x, y], .cons r1 (.cons r2 .nil), z =>
    cases x with
    | int i =>
      cases r1
      exact mt_insert pins s σ H _ _ u us Q I rv rvs ⟨a, ws, i, _, rfl, rfl, f1, by rw [← f2.length]; exact z.1, z.2.1, z.2.2.1, k _ _ _ _ (.lst f1) (g.lstPut e f1 (((f2.take _).append (.cons r2 .nil)).append (f2.drop _))) .non z.2.2.2⟩
    | _ => exact z.elim
variable {o e : Expr} {es : List Expr} {to : ATE} {tes : ATA} {apos cpos : Pos}
theorem ae_append (ho : AE X o to) (ha : AA X [e] tes) (h : ∀ t u, PE X o t → PA X [e] u → PE X (.Call (.Attribute o "append" apos) [e] [] cpos) (tBM X.K "list" (clM X.K bAppend) t u) := by
    exact fun _ _ a b => pe_bm PySem.F.plainAttrs_list PySem.F.slot_list_append PySem.F.type_list_append mb_append a b) : AE X (.Call (.Attribute o "append" apos) [e] [] cpos) (aBM tyL bAppend to tes) :=
  ae_bm (id := "list.append") (T := "list") PySem.F.plainAttrs_list PySem.F.slot_list_append PySem.F.type_list_append mb_append tyL_V ho ha h
theorem ae_extend (ho : AE X o to) (ha : AA X [e] tes) (h : ∀ t u, PE X o t → PA X [e] u → PE X (.Call (.Attribute o "extend" apos) [e] [] cpos) (tBM X.K "list" (clM X.K bExtend) t u) := by
    exact fun _ _ a b => pe_bm PySem.F.plainAttrs_list PySem.F.slot_list_extend PySem.F.type_list_extend mb_extend a b) : AE X (.Call (.Attribute o "extend" apos) [e] [] cpos) (aBM tyL bExtend to tes) :=
  ae_bm (id := "list.extend") (T := "list") PySem.F.plainAttrs_list PySem.F.slot_list_extend PySem.F.type_list_extend mb_extend tyL_V ho ha h
theorem ae_popAt (ho : AE X o to) (ha : AA X [e] tes) (h : ∀ t u, PE X o t → PA X [e] u → PE X (.Call (.Attribute o "pop" apos) [e] [] cpos) (tBM X.K "list" (clM X.K bPop) t u) := by
    exact fun _ _ a b => pe_bm PySem.F.plainAttrs_list PySem.F.slot_list_pop PySem.F.type_list_pop mb_pop a b) : AE X (.Call (.Attribute o "pop" apos) [e] [] cpos) (aBM tyL bPop to tes) :=
  ae_bm (id := "list.pop") (T := "list") PySem.F.plainAttrs_list PySem.F.slot_list_pop PySem.F.type_list_pop mb_pop tyL_V ho ha h
theorem ae_pop (ho : AE X o to) (h : ∀ t, PE X o t → PE X (.Call (.Attribute o "pop" apos) [] [] cpos) (tBM0 X.K "list" (clM X.K bPop) t) := by
    exact fun _ a => pe_bm0 PySem.F.plainAttrs_list PySem.F.slot_list_pop PySem.F.type_list_pop mb_pop a) : AE X (.Call (.Attribute o "pop" apos) [] [] cpos) (aBM tyL bPop to aNil) :=
  ae_bm0 (T := "list") tyL_V ho h
theorem ae_insert {e2 : Expr} (ho : AE X o to) (ha : AA X [e, e2] tes) (h : ∀ t u, PE X o t → PA X [e, e2] u → PE X (.Call (.Attribute o "insert" apos) [e, e2] [] cpos) (tBM X.K "list" (clM X.K bInsert) t u) := by
    exact fun _ _ a b => pe_bm PySem.F.plainAttrs_list PySem.F.slot_list_insert PySem.F.type_list_insert mb_insert a b) : AE X (.Call (.Attribute o "insert" apos) [e, e2] [] cpos) (aBM tyL bInsert to tes) :=
  ae_bm (id := "list.insert") (T := "list") PySem.F.plainAttrs_list PySem.F.slot_list_insert PySem.F.type_list_insert mb_insert tyL_V ho ha h
end
end Ab

namespace Ab
open PySem PySem.Spec PyProof.Rows L2

section
variable {X : Cx}
def bInB (f : Bool → Bool) : AR2 := fun x y m q => match y with
  | .str z => match x with
    | .str s => match s.cps.toList with
      | [c] => q (.bl (f (decide (c ∈ z.cps.toList)))) m
      | _ => False
    | _ => False
  | .tup xs => canA x = true ∧ canAs xs = true ∧ min (PyData.depthAll (toDs xs)) (toD x).depth ≤ 100 ∧ q (.bl (f (xs.any fun z => eqA z x))) m
  | .ref a => match m a with
    | some (.lst xs) => canA x = true ∧ canAs xs = true ∧ min (PyData.depthAll (toDs xs)) (toD x).depth ≤ 100 ∧ q (.bl (f (xs.any fun z => eqA z x))) m
    | some (.dK kvs) => match keyOf x with
      | some k => q (.bl (f (getK kvs k).isSome)) m
      | none => False
    | _ => False
  | _ => False
abbrev bIn : AR2 := bInB id
abbrev bNotIn : AR2 := bInB not
theorem any_D (x : AV) : ∀ xs : List AV, ((toDs xs).any fun z => PyData.eqv z (toD x)) = xs.any fun z => eqA z x
  | [] => by simp [toDs]
  | y :: ys => by
    simp only [toDs, List.any_cons, any_D x ys]
    rfl
theorem ob_inB {f : Bool → Bool} {op : CmpOp} (hop : (op = .In ∧ f = id) ∨ (op = .NotIn ∧ f = not)) (hu : X.A.units + 164 < cLine) : OpR X (compareOp op) (cl2 X.K (bInB f)) := by
  intro pins s σ H v w u1 u2 Q I r1 r2 ⟨x, y, m, q, s1, s2, g, z, k⟩
  have fin : ∀ b, q (.bl b) m → EP X pins σ Q (.bool b) s := fun b z => ⟨.bl b, H, I, rfl, k _ _ _ _ .refl g (.bl b) z⟩
  unfold bInB at z
  cases y with
  | str zz =>
    cases s2
    cases x with
    | str ss =>
      cases s1
      have hc : ∃ c, ss = ⟨#[c]⟩ ∧ q (.bl (f (decide (c ∈ zz.cps.toList)))) m := by
        cases e : ss.cps.toList with
        | nil => simp only [e] at z
        | cons c r =>
          cases r with
          | nil =>
            simp only [e] at z
            refine ⟨c, ?_, z⟩
            cases ss
            congr 1
            exact Array.ext' (by simpa using e)
          | cons d r => simp only [e] at z
      obtain ⟨c, rfl, z⟩ := hc
      rcases hop with ⟨rfl, rfl⟩ | ⟨rfl, rfl⟩
      · exact op_in_sign pins s σ H _ _ u1 u2 Q I r1 r2 ⟨c, zz, rfl, rfl, k _ _ _ _ .refl g (.bl _) z⟩
      · exact op_notIn_sign pins s σ H _ _ u1 u2 Q I r1 r2 ⟨c, zz, rfl, rfl, k _ _ _ _ .refl g (.bl _) z⟩
    | _ => exact z.elim
  | tup xs =>
    cases s2 with
    | tup f1 f2 =>
      obtain ⟨c1, c2, hm, z⟩ := z
      unfold canA at c1
      unfold canAs at c2
      rw [Bool.and_eq_true] at c1 c2
      obtain ⟨as, d1⟩ := Dp.reads I _ v u1 (s1.dp c1.1) r1
      obtain ⟨bs, d2⟩ := Dp.reads I (.tuple (toDs xs)) _ u2 (.tup f1 (f2.dp c2.1)) r2
      rcases hop with ⟨rfl, rfl⟩ | ⟨rfl, rfl⟩
      · exact SeqAt.in_tuple_reads d2 d1 c2.2 c1.2 (by omega) (by rw [any_D]; exact fin _ z)
      · exact SeqAt.notIn_tuple_reads d2 d1 c2.2 c1.2 (by omega) (by rw [any_D]; exact fin _ z)
  | ref a =>
    cases s2
    cases ea : m a with
    | none => simp only [ea] at z
    | some ob =>
      cases ob with
      | lst xs =>
        simp only [ea] at z
        obtain ⟨ws, f1, f2⟩ := g a _ ea
        obtain ⟨c1, c2, hm, z⟩ := z
        unfold canA at c1
        unfold canAs at c2
        rw [Bool.and_eq_true] at c1 c2
        obtain ⟨as, d1⟩ := Dp.reads I _ v u1 (s1.dp c1.1) r1
        obtain ⟨bs, d2⟩ := Dp.reads I (.list (toDs xs)) _ u2 (.lst (SqL.of f1) (f2.dp c2.1)) r2
        rcases hop with ⟨rfl, rfl⟩ | ⟨rfl, rfl⟩
        · exact SeqAt.in_list_reads d2 d1 c2.2 c1.2 (by omega) (by rw [any_D]; exact fin _ z)
        · exact SeqAt.notIn_list_reads d2 d1 c2.2 c1.2 (by omega) (by rw [any_D]; exact fin _ z)
      | dK kvs =>
        obtain ⟨ws, f1, f2⟩ := g a _ ea
        cases ek : keyOf x with
        | none => simp only [ea, ek] at z
        | some kk =>
          simp only [ea, ek] at z
          have hk := key_sim s1 ek
          subst hk
          have hg := getK_sim (k := kk) f2
          have hs : (valV ws kk).isSome = (getK kvs kk).isSome := by
            cases eg : getK kvs kk with
            | none => simp only [eg] at hg; rw [hg]; rfl
            | some v => simp only [eg] at hg; obtain ⟨v', e', _⟩ := hg; rw [e']; rfl
          cases r2
          rcases hop with ⟨rfl, rfl⟩ | ⟨rfl, rfl⟩
          · exact d_in (by omega) I (DGet.k f1) r1 fun s' I' => ⟨.bl _, H, I', by rw [hs]; rfl, k _ _ _ _ .refl g (.bl _) z⟩
          · exact d_notIn (by omega) I (DGet.k f1) r1 fun s' I' => ⟨.bl _, H, I', by rw [hs]; rfl, k _ _ _ _ .refl g (.bl _) z⟩
      | _ => simp only [ea] at z
  | _ => exact z.elim
theorem ob_in (hu : X.A.units + 164 < cLine) : OpR X (compareOp .In) (cl2 X.K bIn) := ob_inB (.inl ⟨rfl, rfl⟩) hu
theorem ob_notIn (hu : X.A.units + 164 < cLine) : OpR X (compareOp .NotIn) (cl2 X.K bNotIn) := ob_inB (.inr ⟨rfl, rfl⟩) hu

abbrev AL := List AV → AHp → AK → Prop
def one (r : AV → AHp → AK → Prop) : AL := fun xs m q => match xs with
  | [x] => r x m q
  | _ => False
theorem one_at {r : AV → AHp → AK → Prop} {xs : List AV} {m : AHp} {q : AK} (h : one r xs m q) : ∃ x, xs = [x] ∧ r x m q := by
  match xs, h with
  | [x], h => exact ⟨x, rfl, h⟩
  | [], h => exact h.elim
  | _ :: _ :: _, h => exact h.elim
theorem cr_one {f : Value} {r : AV → AHp → AK → Prop} (h : ∀ pins s σ H v Q x m q us, Inv X pins σ H s → Vals [v] us → SimV X.K H x v → SimH X.K H m → r x m q → KE X.K H q Q → wpAny (model X.prog X.w) X.A (call f us) (EP X pins σ Q) X.xe s) : CallR X f (clL X.K (one r)) := by
  intro pins s σ H vs us Q I rv ⟨xs, m, q, s1, g, z, k⟩
  obtain ⟨x, rfl, z⟩ := one_at z
  cases s1 with
  | cons r1 rr =>
    cases rr
    exact h pins s σ H _ Q x m q us I rv r1 g z k
def bLen : AL := fun xs0 m0 q0 => one (fun x m q => match x with
  | .str z => z.length ≤ sizeLine ∧ q (.int z.length) m
  | .tup xs => q (.int xs.length) m
  | .ref a => match m a with
    | some (.lst xs) => q (.int xs.length) m
    | some (.dK kvs) => q (.int kvs.length) m
    | _ => False
  | _ => False) xs0 m0 q0
theorem cb_len : CallR X (.builtin "len") (clL X.K bLen) := cr_one fun pins s σ H v Q x m q us I rv s1 g z k => by
  cases x with
  | str zz => cases s1; exact call_len pins s σ H _ us Q I rv ⟨_, _, rfl, ⟨z.1, rfl⟩, k _ _ _ _ .refl g (.int _) z.2⟩
  | tup xs =>
    cases s1 with
    | tup f1 f2 => exact call_len_seq pins s σ H _ us Q I rv ⟨_, _, rfl, .inr f1, by rw [← f2.length]; exact k _ _ _ _ .refl g (.int _) z⟩
  | ref a =>
    cases s1
    cases ea : m a with
    | none => simp only [ea] at z
    | some ob =>
      cases ob with
      | lst xs =>
        simp only [ea] at z
        obtain ⟨ws, f1, f2⟩ := g a _ ea
        exact call_len_seq pins s σ H _ us Q I rv ⟨_, _, rfl, .inl (SqL.of f1), by rw [← f2.length]; exact k _ _ _ _ .refl g (.int _) z⟩
      | dK kvs =>
        simp only [ea] at z
        obtain ⟨ws, f1, f2⟩ := g a _ ea
        have hl : kvs.length = ws.length := Paired.length f2
        exact call_lenD pins s σ H _ us Q I rv ⟨_, _, rfl, f1, by rw [← hl]; exact k _ _ _ _ .refl g (.int _) z⟩
      | _ => simp only [ea] at z
  | _ => exact z.elim
def kA : Key → AV
  | .inl i => .int i
  | .inr x => .str x
theorem keys_sim {K : PySem.W.Frag} {H : Hp} : ∀ {kvs : List (Key × AV)} {ws : List (Key × V)}, SimK K H kvs ws → SimVs K H (kvs.map fun kv => kA kv.1) (ws.map fun kv => kV kv.1)
  | _, _, .nil => .nil
  | (a, x) :: r, (b, v) :: r', .cons h hs => by
    obtain ⟨e, s⟩ := h
    have e : a = b := e
    subst e
    refine .cons ?_ (keys_sim hs)
    cases a
    · exact .int _
    · exact .str _
def bList : AL := fun xs0 m0 q0 => one (fun x m q => match x with
  | .tup xs => ∀ p, m p = none → q (.ref p) (updA m p (.lst xs))
  | .scr ns => ∀ p, m p = none → q (.ref p) (updA m p (.lst (ns.map AV.int)))
  | .ref a => match m a with
    | some (.lst xs) => ∀ p, m p = none → q (.ref p) (updA m p (.lst xs))
    | some (.dK kvs) => ∀ p, m p = none → q (.ref p) (updA m p (.lst (kvs.map fun kv => kA kv.1)))
    | _ => False
  | _ => False) xs0 m0 q0
theorem cb_list (hc : X.calm = true) : CallR X (.type "list") (clL X.K bList) := cr_one fun pins s σ H v Q x m q us I rv s1 g z k => by
  cases x with
  | tup xs =>
    cases s1 with
    | tup f1 f2 => exact call_list_of pins s σ H _ us Q I rv ⟨_, _, rfl, .inr f1, fun p hp => k.newL g f2 hp z⟩
  | scr ns =>
    cases s1 with
    | scr f1 => exact call_list_of pins s σ H _ us Q I rv ⟨_, _, rfl, .inl f1.1, fun p hp => k.newL g SimVs.of_ints hp z⟩
  | ref a =>
    cases s1
    cases ea : m a with
    | none => simp only [ea] at z
    | some ob =>
      cases ob with
      | lst xs =>
        simp only [ea] at z
        obtain ⟨ws, f1, f2⟩ := g a _ ea
        exact call_list_of pins s σ H _ us Q I rv ⟨_, _, rfl, .inl (SqL.of f1), fun p hp => k.newL g f2 hp z⟩
      | dK kvs =>
        simp only [ea] at z
        obtain ⟨ws, f1, f2⟩ := g a _ ea
        exact call_list_dK hc pins s σ H _ us Q I rv ⟨_, _, rfl, f1, fun p hp => k.newL g (keys_sim f2) hp z⟩
      | _ => simp only [ea] at z
  | _ => exact z.elim
def bTuple : AL := fun xs0 m0 q0 => one (fun x m q => match x with
  | .tup xs => q (.tup xs) m
  | .ref a => match m a with
    | some (.lst xs) => q (.tup xs) m
    | _ => False
  | _ => False) xs0 m0 q0
theorem cb_tuple : CallR X (.type "tuple") (clL X.K bTuple) := cr_one fun pins s σ H v Q x m q us I rv s1 g z k => by
  cases x with
  | tup xs =>
    cases s1 with
    | tup f1 f2 => exact call_tuple_of pins s σ H _ us Q I rv ⟨_, _, rfl, .inr ⟨f1, k _ _ _ _ .refl g (.tup f1 f2) z⟩⟩
  | ref a =>
    cases s1
    cases ea : m a with
    | none => simp only [ea] at z
    | some ob =>
      cases ob with
      | lst xs =>
        simp only [ea] at z
        obtain ⟨ws, f1, f2⟩ := g a _ ea
        exact call_tuple_of pins s σ H _ us Q I rv ⟨_, _, rfl, .inl ⟨SqL.of f1, fun p hp => k.newT g f2 hp z⟩⟩
      | _ => simp only [ea] at z
  | _ => exact z.elim
def asInts : List AV → Option (List Int)
  | [] => some []
  | .int i :: r => (asInts r).map (i :: ·)
  | _ => none
theorem asInts_eq : ∀ {xs : List AV} {ns : List Int}, asInts xs = some ns → xs = ns.map AV.int
  | [], ns, h => by cases h; rfl
  | x :: r, ns, h => by
    cases x with
    | int i =>
      unfold asInts at h
      cases e : asInts r with
      | none => rw [e] at h; cases h
      | some l =>
        rw [e] at h
        cases h
        rw [asInts_eq e]
        rfl
    | _ => cases h
theorem asInts_map : ∀ ns : List Int, asInts (ns.map AV.int) = some ns
  | [] => rfl
  | n :: ns => by
    show (asInts (ns.map AV.int)).map (n :: ·) = _
    rw [asInts_map ns]
    rfl
def bSum : AL := fun xs0 m0 q0 => one (fun x m q => match x with
  | .ref a => match m a with
    | some (.lst xs) => match asInts xs with
      | some ns => q (.int ns.sum) m
      | none => False
    | _ => False
  | _ => False) xs0 m0 q0
theorem cb_sum (hc : X.calm = true) : CallR X (.builtin "sum") (clL X.K bSum) := cr_one fun pins s σ H v Q x m q us I rv s1 g z k => by
  cases x with
  | ref a =>
    cases s1
    cases ea : m a with
    | none => simp only [ea] at z
    | some ob =>
      cases ob with
      | lst xs =>
        obtain ⟨ws, f1, f2⟩ := g a _ ea
        cases en : asInts xs with
        | none => simp only [ea, en] at z
        | some ns =>
          simp only [ea, en] at z
          rw [asInts_eq en] at f2
          have e := SimVs.ints f2
          subst e
          exact cr_sum hc pins s σ H _ us Q I rv ⟨_, ns, rfl, SqL.of f1, k _ _ _ _ .refl g (.int _) z⟩
      | _ => simp only [ea] at z
  | _ => exact z.elim
def bToInt : AL := fun xs0 m0 q0 => one (fun x m q => match x with
  | .int i => q (.int i) m
  | .bl b => q (.int (if b then 1 else 0)) m
  | _ => False) xs0 m0 q0
theorem cb_int : CallR X (.type "int") (clL X.K bToInt) := cr_one fun pins s σ H v Q x m q us I rv s1 g z k => by
  cases x with
  | int i => cases s1; exact call_int1 pins s σ H _ us Q I rv (.inl ⟨_, rfl, k _ _ _ _ .refl g (.int _) z⟩)
  | bl b => cases s1; exact call_int1 pins s σ H _ us Q I rv (.inr ⟨_, rfl, k _ _ _ _ .refl g (.int _) z⟩)
  | _ => exact z.elim
def tyA (x : AV) (m : AHp) : Option String := match x with
  | .non => some "NoneType"
  | .bl _ => some "bool"
  | .int _ => some "int"
  | .str _ => some "str"
  | .tup _ => some "tuple"
  | .ref a => match m a with
    | some (.lst _) => some "list"
    | some (.dK _) => some "dict"
    | _ => none
  | _ => none
def tyNames : List String := ["NoneType", "bool", "int", "str", "tuple", "list", "dict"]
def isTy (a b : String) : Bool := a == b || (a == "bool" && b == "int")
theorem kits : (tyNames.all fun a => tyNames.all fun b => b == "NoneType" || (kitB a b == some (isTy a b))) = true := by decide +kernel
theorem kit_at {a b : String} (ha : a ∈ tyNames) (hb : b ∈ tyNames) (hn : b ≠ "NoneType") : kitB a b = some (isTy a b) := by
  have h := List.all_eq_true.mp kits a ha
  have h := List.all_eq_true.mp h b hb
  rw [Bool.or_eq_true] at h
  rcases h with h | h
  · exact absurd (eq_of_beq h) hn
  · exact eq_of_beq h
theorem tyX_of {K : PySem.W.Frag} {H : Hp} {m : AHp} {x : AV} {v : V} {a : String} (g : SimH K H m) (r : SimV K H x v) (e : tyA x m = some a) : TyX K H v (.type a) ∧ a ∈ tyNames := by
  cases x with
  | non => cases r; cases e; exact ⟨.base .non, by decide⟩
  | bl b => cases r; cases e; exact ⟨.base (.bl b), by decide⟩
  | int i => cases r; cases e; exact ⟨.base (.int i), by decide⟩
  | str i => cases r; cases e; exact ⟨.base (.str i), by decide⟩
  | tup xs =>
    cases r with
    | tup f1 f2 =>
      cases e
      refine ⟨?_, by decide⟩
      rcases f1 with (f1 | ⟨o, f1⟩) | ⟨o, its, n, f1, f3, _⟩
      · exact .base (.tup f1)
      · exact .fTuple f1
      · exact .kTuple f1 f3
  | ref a =>
    cases r
    unfold tyA at e
    cases ea : m a with
    | none => simp only [ea] at e; cases e
    | some ob =>
      cases ob with
      | lst xs =>
        simp only [ea] at e
        cases e
        obtain ⟨ws, f1, f2⟩ := g a _ ea
        exact ⟨.base (.lst f1), by decide⟩
      | dK xs =>
        simp only [ea] at e
        cases e
        obtain ⟨ws, f1, f2⟩ := g a _ ea
        exact ⟨.base (.dK f1), by decide⟩
      | _ => simp only [ea] at e; cases e
  | _ => cases e
def bIsi : AL := fun xs m q => match xs with
  | [x, .ty b] => match tyA x m with
    | some a => (tyNames.contains b = true ∧ b ≠ "NoneType") ∧ q (.bl (isTy a b)) m
    | none => False
  | _ => False
theorem cb_isi : CallR X (.builtin "isinstance") (clL X.K bIsi) := by
  intro pins s σ H vs us Q I rv ⟨xs, m, q, s1, g, z, k⟩
  match xs, s1, z with
  | [x, .ty b], .cons r1 (.cons r2 .nil), z =>
    cases r2
    unfold bIsi at z
    cases e : tyA x m with
    | none => simp only [e] at z
    | some a =>
      simp only [e] at z
      obtain ⟨t1, t2⟩ := tyX_of g r1 e
      have hb : b ∈ tyNames := by simpa using z.1.1
      exact call_isi pins s σ H _ us Q I rv ⟨_, _, _, _, _, rfl, .ty b, t1, kit_ty (kit_at t2 hb z.1.2), k _ _ _ _ .refl g (.bl _) z.2⟩
  | [], _, z => exact z.elim
  | [x], _, z => exact z.elim
  | [x, .non], _, z => exact z.elim
  | [x, .bl _], _, z => exact z.elim
  | [x, .int _], _, z => exact z.elim
  | [x, .str _], _, z => exact z.elim
  | [x, .tup _], _, z => exact z.elim
  | [x, .ref _], _, z => exact z.elim
  | [x, .scr _], _, z => exact z.elim
  | x :: y :: w :: r, _, z => cases y <;> exact z.elim
mutual
theorem pure_noDict : ∀ x : AV, (toD x).hasDict = false
  | .non => by simp [toD, PyData.hasDict]
  | .bl b => by simp [toD, PyData.hasDict]
  | .int i => by simp [toD, PyData.hasDict]
  | .str x => by simp [toD, PyData.hasDict]
  | .tup xs => by
    simp only [toD, PyData.hasDict]
    exact pure_noDicts xs
  | .ref a => by simp [toD, PyData.hasDict]
  | .ty n => by simp [toD, PyData.hasDict]
  | .scr ns => by simp [toD, PyData.hasDict]
theorem pure_noDicts : ∀ xs : List AV, PyData.hasDictAll (toDs xs) = false
  | [] => by simp [toDs, PyData.hasDictAll]
  | x :: xs => by simp [toDs, PyData.hasDictAll, pure_noDict x, pure_noDicts xs]
end
def bRepr : AL := fun xs0 m0 q0 => one (fun x m q => match x with
  | .ref a => match m a with
    | some (.lst xs) => pureVs xs = true ∧ PyData.showableAll (toDs xs) = true ∧ PyData.depthAll (toDs xs) ≤ 150 ∧ (PyData.list (toDs xs)).shown.length ≤ sizeLine ∧ q (.str (PyData.list (toDs xs)).shown) m
    | _ => False
  | x => pureV x = true ∧ (toD x).showable = true ∧ (toD x).depth ≤ 150 ∧ (toD x).shown.length ≤ sizeLine ∧ q (.str (toD x).shown) m) xs0 m0 q0
theorem cb_repr (hu : X.A.units + 164 < cLine) (hg : X.A.guards = some []) : CallR X (.builtin "repr") (clL X.K bRepr) := cr_one fun pins s σ H v Q x m q us I rv s1 g z k => by
  have line : ∀ {a : Addr} {d : PyData}, Dp X.K H (.ref a) d → d.showable = true → d.hasDict = false → d.depth ≤ 160 → d.shown.length ≤ sizeLine → q (.str d.shown) m → wpAny (model X.prog X.w) X.A (call (.builtin "repr") [.ref a]) (EP X pins σ Q) X.xe s := fun {a d} dp hs hd hl hz z => by
    obtain ⟨as, rd⟩ := Dp.reads I d _ (.ref a) dp rfl
    refine repr_of_reads' rd hs (fun e => by rw [hd] at e; cases e) hg (by omega) (fun _ _ e => e) (fun h' u tk kp => ?_) hz
    exact ⟨.str d.shown, H, I.kept kp, ⟨_, rfl⟩, k _ _ _ _ .refl g (.str _) z⟩
  cases rv with
  | cons r1 rr =>
    cases rr
    cases x with
    | non =>
      cases s1
      cases r1
      obtain ⟨_, _, _, _, z⟩ := z
      simp only [toD, PyData.shown] at z
      exact PySem.P.repr_of_none ⟨.str "None", H, I.tok _, ⟨_, rfl⟩, k _ _ _ _ .refl g (.str _) z⟩
    | bl b =>
      cases s1
      cases r1
      obtain ⟨_, _, _, _, z⟩ := z
      simp only [toD, PyData.shown] at z
      exact PySem.P.repr_of_bool ⟨.str _, H, I.tok _, ⟨_, rfl⟩, k _ _ _ _ .refl g (.str _) z⟩
    | int i =>
      cases s1
      obtain ⟨t, rfl⟩ := r1
      obtain ⟨_, hs, _, _, z⟩ := z
      simp only [toD, PyData.shown] at z
      simp only [toD, PyData.showable, decide_eq_true_eq] at hs
      exact PySem.P.repr_of_int hs ⟨.str _, H, I.tok _, ⟨_, rfl⟩, k _ _ _ _ .refl g (.str _) z⟩
    | str y =>
      cases s1
      obtain ⟨t, rfl⟩ := r1
      obtain ⟨_, hs, _, hz, z⟩ := z
      simp only [toD, PyData.shown] at z hz
      exact PySem.P.repr_of_str ⟨.str _, H, I.tok _, ⟨_, rfl⟩, k _ _ _ _ .refl g (.str _) z⟩ hz
    | tup xs =>
      obtain ⟨hp, hs, hl, hz, z⟩ := z
      have dp := s1.dp hp
      cases s1 with
      | tup f1 f2 =>
        cases r1
        exact line dp hs (pure_noDict (.tup xs)) (by omega) hz z
    | ref a =>
      cases s1
      cases r1
      cases ea : m a with
      | none => simp only [ea] at z
      | some ob =>
        cases ob with
        | lst xs =>
          simp only [ea] at z
          obtain ⟨ws, f1, f2⟩ := g a _ ea
          obtain ⟨hp, hs, hl, hz, z⟩ := z
          exact line (.lst (SqL.of f1) (f2.dp hp)) (by simpa only [PyData.showable] using hs) (by simpa only [PyData.hasDict] using pure_noDicts xs) (by simp only [PyData.depth]; omega) hz z
        | _ => simp only [ea] at z
    | ty n => obtain ⟨hp, _⟩ := z; simp [pureV] at hp
    | scr n => obtain ⟨hp, _⟩ := z; simp [pureV] at hp
end
end Ab

namespace Ab
open PySem PySem.Spec PyProof.Rows L2

section
variable {X : Cx} {pos : Pos}
def dcL (K : PySem.W.Frag) (g : ATG) (tt : ATT) (tk tv : ATE) (G : AHp → Prop) (D : Addr) (q : AK) (a : ASt) : List AV → AHp → Prop
  | [], m => G m ∧ q (.ref D) m
  | x :: xs, m => G m ∧ g x a m fun a2 m2 => tt a2 m2 fun b m3 => if b = true then tk a2 m3 fun y m4 => tv a2 m4 fun z m5 => Fg K m5 fun m6 => match keyOf y, m6 D with
      | some k, some (.dK acc) => acc.length < sizeLine ∧ dcL K g tt tk tv G D q a xs (updA m6 D (.dK (putA acc k z)))
      | _, _ => False
    else Fg K m3 fun m6 => dcL K g tt tk tv G D q a xs m6
def aDc (K : PySem.W.Frag) (w : ATI) (g : ATG) (tt : ATT) (tk tv : ATE) (vs : List Nat) : ATE := fun a m q => w a m fun xs G m1 => ∀ D, m1 D = none → dcL K g tt tk tv G D q (wipeA a vs) xs (updA m1 D (.dK []))
theorem dc_of {K : PySem.W.Frag} {w : ATI} {g : ATG} {tt : ATT} {tk tv : ATE} {sl vs : List Nat} (hsl : ∀ i ∈ sl, i ∈ vs) {σ : L2.St} {H : Hp} {Q : VK} (h : clE K (aDc K w g tt tk tv vs) σ H Q) : tDc (clI K w) (clG K sl g) (clT K tt) (clE K tk) (clE K tv) vs σ H Q := by
  obtain ⟨a, m, q, h1, h2, h3, h4⟩ := h
  refine ⟨a, m, _, h1, h2, h3, fun xs G m1 J H1 l1 g1 S q1 => fun D hD => ?_⟩
  have q1 := q1 D (g1.free hD)
  have lD : Le K H1 (upd H1 D (.dK [])) := .new hD
  refine ⟨fun i k H' => k = xs.length - i ∧ i ≤ xs.length ∧ ∃ m, Le K (upd H1 D (.dK [])) H' ∧ SimH K H' m ∧ dcL K g tt tk tv G D q (wipeA a vs) (xs.drop i) m, ⟨xs.length, by simp, Nat.zero_le _, _, .refl, g1.new hD (o := .dK []) ⟨[], upd_same, .nil⟩, q1⟩, ?_⟩
  rintro i k H2 ⟨rfl, hi, m2, l2, g2, q2⟩
  have l12 := lD.trans l2
  have s2 : SimS K H2 (wipeA a vs) (L2.wipe σ vs) := (h1.wiped vs).mono (l1.trans l12)
  by_cases hlt : i < xs.length
  · rw [List.drop_eq_getElem_cons hlt] at q2
    obtain ⟨gm, q2⟩ := q2
    refine .inr ⟨S.go i H2 m2 l12 g2 gm hlt, fun H' => ∃ m, Le K (upd H1 D (.dK [])) H' ∧ SimH K H' m ∧ dcL K g tt tk tv G D q (wipeA a vs) (xs.drop (i + 1)) m, fun H' z => ⟨xs.length - (i + 1), by omega, rfl, hlt, z⟩, fun v H3 y => ?_⟩
    obtain ⟨l3, g3, r3⟩ := S.yld i H2 m2 v H3 xs[i] l12 g2 gm (List.getElem?_eq_getElem hlt) y
    refine ⟨xs[i], wipeA a vs, m2, _, r3, s2.mono l3, g3, q2, fun t4 m4 σ4 H4 l4 s4 g4 z1 z2 q4 => ⟨wipe_same hsl z1 z2, t4, m4, _, s4, g4, q4, fun b m5 H5 l5 g5 q5 => ?_⟩⟩
    cases b with
    | false =>
      rw [if_neg Bool.false_ne_true]
      have q5 := (if_neg Bool.false_ne_true) ▸ q5
      obtain ⟨m6, z, q5⟩ := q5
      exact ⟨m6, l2.trans (l3.trans (l4.trans l5)), z _ g5, q5⟩
    | true =>
      rw [if_pos rfl]
      have q5 := (if_pos rfl) ▸ q5
      refine ⟨t4, m5, _, s4.mono l5, g5, q5, fun y m6 v6 H6 l6 g6 r6 q6 => ⟨t4, m6, _, s4.mono (l5.trans l6), g6, q6, fun z m7 v7 H7 l7 g7 r7 ⟨m7, z7, q7⟩ => ?_⟩⟩
      have g7 := z7 _ g7
      cases ek : keyOf y with
      | none => simp only [ek] at q7
      | some kk =>
        cases e7 : m7 D with
        | none => simp only [ek, e7] at q7
        | some o =>
          cases o with
          | dK acc =>
            simp only [ek, e7] at q7
            obtain ⟨ws, f1, f2⟩ := g7 D _ e7
            have hk := key_sim r6 ek
            subst hk
            have hl : acc.length = ws.length := Paired.length f2
            have l8 : Le K H7 (upd H7 D (.dK (putK ws kk v7))) := .dict f1
            exact ⟨ws, kk, rfl, f1, by rw [← hl]; exact q7.1, _, l2.trans (l3.trans (l4.trans (l5.trans (l6.trans (l7.trans l8))))), g7.dictPut e7 f1 (putA_sim f2 r7), q7.2⟩
          | _ => simp only [ek, e7] at q7
  · have hi' : xs.length ≤ i := Nat.le_of_not_lt hlt
    rw [List.drop_eq_nil_of_le hi'] at q2
    exact .inl ⟨S.stop i H2 m2 l12 g2 q2.1 hi', h4 _ m2 _ H2 (l1.trans l12) g2 (.ref D) q2.2⟩
variable {kx vx tg iter : Expr} {ifs : List Expr} {scope : Scope} {own : List (Str × Nat)}
theorem ps_setDc {i : Nat} {y : Str} {py spos : Pos} {wi : TI} {g : TG} {tt : TT} {tk tv : TE} (hc : X.calm = true) (hN : X.N.Nodup) (hy : X.N[i]? = some y) (hyl : X.env.scope.names.lookup y = some .local)
    (hsw : swapsWith (.DictComp kx vx [⟨tg, iter, ifs, 0⟩] scope pos) (some (.Name y py)) spos.line X.env = pure true) (hi : PI X tg iter wi) (ok : BlkOk X.N X.env.scope scope own)
    (hg : ∀ (s : Shared) (H : Hp) (C : Addr) (cl : List (Str × Addr)) (fp : List Addr), PG (X.blk s H scope (compEnvC scope cl C X.env) fp) tg g) (ht : ∀ (s : Shared) (H : Hp) (C : Addr) (cl : List (Str × Addr)) (fp : List Addr), PTs (X.blk s H scope (compEnvC scope cl C X.env) fp) ifs tt)
    (hk : ∀ (s : Shared) (H : Hp) (C : Addr) (cl : List (Str × Addr)) (fp : List Addr), PE (X.blk s H scope (compEnvC scope cl C X.env) fp) kx tk)
    (he : ∀ (s : Shared) (H : Hp) (C : Addr) (cl : List (Str × Addr)) (fp : List Addr), PE (X.blk s H scope (compEnvC scope cl C X.env) fp) vx tv) (hs : ∀ x, foldedSetIterable iter X.env x = pure x) :
    PS X (.Assign [.Name y py] (.DictComp kx vx [⟨tg, iter, ifs, 0⟩] scope pos) spos) (L2.tAsg (tDc wi g tt tk tv (own.map (·.2))) (gName i)) := by
  constructor
  intro pins s σ H D inv z
  rw [exec_Assign_Name_used _ _ _ _ hsw]
  apply wpAny_bind
  apply wpAny_standAt
  apply wpAny_bind
  show wpAny _ X.A (comprehension (.DictComp kx vx [⟨tg, iter, ifs, 0⟩] scope pos) scope X.env (firstIterPos [⟨tg, iter, ifs, 0⟩] pos) newDict false (eval iter X.env) (some (assign (.Name y py) X.env)) >>= fun _ => pure ()) _ _ s
  have want : tDc wi g tt tk tv (own.map (·.2)) σ H (fun x H1 => gName i x σ H1 D.nx) := z
  have main := dc_core (pos := pos) (use := some (assign (.Name y py) X.env)) (Qf := fun _ s2 => SP X pins D .next s2) (pos' := firstIterPos [⟨tg, iter, ifs, 0⟩] pos) hc hN inv hi ok hg ht hk he hs want ?_
  · exact wpAny_bind (thn main fun _ s2 q => wpAny_pure (wpAny_pure q))
  · intro L C s2 m H2 inv2 q ns fp
    show wpAny _ _ (assign (.Name y py) X.env (.ref L)) _ _ _
    apply wpAny_assign_Name
    apply store_ok2 (v := V.ref L) inv2 hN hy (.inl hyl) rfl ?_ (.inr hyl)
    rintro s3 inv3 ⟨b, same, hb⟩
    obtain ⟨f0, f1, f2, f3, f4, f5⟩ := fp
    have apart : C ≠ b := by
      cases hb with
      | inl z => rw [z]; exact f1
      | inr z => exact fun e => f4 y b z e.symm
    refine ⟨m, ns.sameBut same apart, ?_⟩
    intro h4 same4
    exact ⟨_, H2, inv3.turned (t' := s3.toks) (fun c o hc2 e => (same4.2 c hc2).trans e) f0 f1 f3 f4 f5, q⟩
theorem sw_dict {k v : Expr} {gs : List Comprehension} {py : Pos} {y : Str} {l : Nat} {env : Env} (h1 : env.scope.kind = .function) (h2 : env.scope.names.lookup y = some .local) (h3 : (py.line == pos.line) = true)
    (h4 : (scope.names.any fun (n, k) => n == y && (k == .local || k == .cell)) = false) : swapsWith (.DictComp k v gs scope pos) (some (.Name y py)) l env = pure true := by
  have a : env.kindOf y = some .local := h2
  have b : env.blockKind = .function := by
    unfold Env.blockKind
    rw [h1]
    rfl
  unfold swapsWith
  simp only [b, a, h4, Expr.pos, h3]
  rfl
variable {w : ATI} {sl : List Nat} {g : ATG} {tt : ATT} {tk tv : ATE}
theorem ae_dc (hc : X.calm = true) (hN : X.N.Nodup) (hi : AI X tg iter w) (ok : BlkOk X.N X.env.scope scope own)
    (hg : ∀ (s : Shared) (H : Hp) (C : Addr) (cl : List (Str × Addr)) (fp : List Addr), AG (X.blk s H scope (compEnvC scope cl C X.env) fp) tg sl g) (ht : ∀ (s : Shared) (H : Hp) (C : Addr) (cl : List (Str × Addr)) (fp : List Addr), ATs (X.blk s H scope (compEnvC scope cl C X.env) fp) ifs tt)
    (hk : ∀ (s : Shared) (H : Hp) (C : Addr) (cl : List (Str × Addr)) (fp : List Addr), AE (X.blk s H scope (compEnvC scope cl C X.env) fp) kx tk)
    (he : ∀ (s : Shared) (H : Hp) (C : Addr) (cl : List (Str × Addr)) (fp : List Addr), AE (X.blk s H scope (compEnvC scope cl C X.env) fp) vx tv) (hsl : ∀ i ∈ sl, i ∈ own.map (·.2) := by decide) (hs : ∀ x, foldedSetIterable iter X.env x = pure x := by intro _; rfl) :
    AE X (.DictComp kx vx [⟨tg, iter, ifs, 0⟩] scope pos) (aDc X.K w g tt tk tv (own.map (·.2))) := peI (pe_dc hc hN hi ok hg ht hk he hs) fun _ _ _ h => dc_of hsl h
theorem as_setDc {i : Nat} {y : Str} {py spos : Pos} (hc : X.calm = true) (hN : X.N.Nodup) (hy : X.N[i]? = some y) (hyl : X.env.scope.names.lookup y = some .local)
    (hsw : swapsWith (.DictComp kx vx [⟨tg, iter, ifs, 0⟩] scope pos) (some (.Name y py)) spos.line X.env = pure true) (hi : AI X tg iter w) (ok : BlkOk X.N X.env.scope scope own)
    (hg : ∀ (s : Shared) (H : Hp) (C : Addr) (cl : List (Str × Addr)) (fp : List Addr), AG (X.blk s H scope (compEnvC scope cl C X.env) fp) tg sl g) (ht : ∀ (s : Shared) (H : Hp) (C : Addr) (cl : List (Str × Addr)) (fp : List Addr), ATs (X.blk s H scope (compEnvC scope cl C X.env) fp) ifs tt)
    (hk : ∀ (s : Shared) (H : Hp) (C : Addr) (cl : List (Str × Addr)) (fp : List Addr), AE (X.blk s H scope (compEnvC scope cl C X.env) fp) kx tk)
    (he : ∀ (s : Shared) (H : Hp) (C : Addr) (cl : List (Str × Addr)) (fp : List Addr), AE (X.blk s H scope (compEnvC scope cl C X.env) fp) vx tv) (hsl : ∀ i ∈ sl, i ∈ own.map (·.2) := by decide) (hs : ∀ x, foldedSetIterable iter X.env x = pure x := by intro _; rfl) :
    AS X (.Assign [.Name y py] (.DictComp kx vx [⟨tg, iter, ifs, 0⟩] scope pos) spos) (aAsg (aDc X.K w g tt tk tv (own.map (·.2))) (aName i)) := psI (ps_setDc (i := i) hc hN hy hyl hsw hi ok hg ht hk he hs) fun D σ H ⟨a, m, d, h1, h2, h3, h4⟩ => by
  have z : clE X.K (aDc X.K w g tt tk tv (own.map (·.2))) σ H (fun x H1 => gName i x σ H1 D.nx) := ⟨a, m, _, h1, h2, h3, fun x m1 v H1 l g1 r q => h4.nx _ m1 _ H1 l ((h1.mono l).put r i) g1 q⟩
  exact dc_of hsl z
end

section
variable {X : Cx} {pos : Pos} {tg : Expr}
def iSeq (K : PySem.W.Frag) (tl : TE) : TI := fun σ H R => tl σ H fun x H1 => ∃ a, x = .ref a ∧ (((∃ xs, SqL K H1 a xs) ∧ R (Itl K a) H1) ∨ ((∃ xs, SqT K H1 a xs) ∧ R (Itt K a) H1))
theorem pi_seq {l : Expr} {tl : TE} (hl : PE X l tl) : PI X tg l (iSeq X.K tl) := by
  constructor
  intro pins s σ H R inv h
  apply thn (hl.run pins s σ H _ inv h)
  rintro v s1 ⟨x, H1, inv1, r1, a, e, q⟩
  subst e
  cases r1
  have mine : ∀ b ∈ [s1.heap.objs.size], FpOk X pins H1 b := by
    intro b hb
    rw [List.mem_singleton] at hb
    subst hb
    exact inv1.fpOk (Nat.le_refl _) (inv1.hok.fresh (Nat.le_refl _))
  have kept : ∀ o : Obj, Inv X pins σ H1 { s1 with heap := s1.heap.push o } := fun o => inv1.kept (t' := s1.toks) fun b u z => Heap.get?_push_of_some _ z
  cases q with
  | inl q =>
    obtain ⟨⟨xs, hq⟩, q⟩ := q
    obtain ⟨its, rv, pl, _⟩ := inv1.list hq
    apply wpAny_pyIter_list pl.isList
    exact ⟨s1.heap.objs.size, [s1.heap.objs.size], _, _, H1, rfl, kept _, turn_list a _, ⟨_, Heap.get?_push_size _ rfl, rfl, rfl⟩, mine, q⟩
  | inr q =>
    obtain ⟨⟨xs, hq⟩, q⟩ := q
    obtain ⟨its, rv, pl, _⟩ := inv1.tuple hq
    have tu : s1.heap.IsTuple a its.toArray := pl
    apply wpAny_pyIter_tuple tu
    exact ⟨s1.heap.objs.size, [s1.heap.objs.size], _, _, H1, rfl, kept _, turn_tuple a _, ⟨_, Heap.get?_push_size _ rfl, rfl, rfl⟩, mine, q⟩
theorem itl_s {K : PySem.W.Frag} {H : Hp} (b : Addr) (xs : List AV) : ItS K H xs (fun m => m b = some (.lst xs)) (Itl K b) := by
  refine ⟨fun i H' m' l g e i1 => ?_, fun i H' m' v H2 x l g e e2 y => ?_, fun i H' m' l g e i1 => ?_⟩
  · obtain ⟨ws, f1, f2⟩ := g b _ e
    have : i < ws.length := by rw [← f2.length]; exact i1
    exact ⟨ws, ws[i], SqL.of f1, List.getElem?_eq_getElem this⟩
  · obtain ⟨ws, f1, f2⟩ := g b _ e
    obtain ⟨rfl, y⟩ := y
    obtain ⟨v', e3, r3⟩ := f2.get e2
    have := y ws (SqL.of f1)
    rw [e3] at this; cases this
    exact ⟨.refl, g, r3⟩
  · obtain ⟨ws, f1, f2⟩ := g b _ e
    exact ⟨ws, SqL.of f1, by rw [← f2.length]; exact i1⟩
theorem itt_s {K : PySem.W.Frag} {H : Hp} {b : Addr} {xs : List AV} {ws : List V} (f1 : SqT K H b ws) (f2 : SimVs K H xs ws) : ItS K H xs (fun _ => True) (Itt K b) := by
  refine ⟨fun i H' m' l g e i1 => ?_, fun i H' m' v H2 x l g e e2 y => ?_, fun i H' m' l g e i1 => ?_⟩
  · have : i < ws.length := by rw [← f2.length]; exact i1
    exact ⟨ws, ws[i], l.tup _ _ f1, List.getElem?_eq_getElem this⟩
  · obtain ⟨rfl, y⟩ := y
    obtain ⟨v', e3, r3⟩ := f2.get e2
    have := y ws (l.tup _ _ f1)
    rw [e3] at this; cases this
    exact ⟨.refl, g, r3.mono l⟩
  · exact ⟨ws, l.tup _ _ f1, by rw [← f2.length]; exact i1⟩
def wAny (te : ATE) : ATI := fun a m q => te a m fun x m1 => match x with
  | .tup xs => q xs (fun _ => True) m1
  | .ref b => match m1 b with
    | some (.lst xs) => q xs (fun m => m b = some (.lst xs)) m1
    | _ => False
  | _ => False
theorem ai_seq {e : Expr} {te : ATE} (h : AE X e te) : AI X tg e (wAny te) := piI (pi_seq h) fun σ H R ⟨a, m, q, h1, h2, h3, h4⟩ => by
  refine ⟨a, m, _, h1, h2, h3, fun x m1 v H1 l1 g1 r1 q1 => ?_⟩
  cases x with
  | ref b =>
    cases r1
    cases eb : m1 b with
    | none => simp only [eb] at q1
    | some ob =>
      cases ob with
      | lst xs =>
        simp only [eb] at q1
        obtain ⟨ws, f1, f2⟩ := g1 b _ eb
        exact ⟨b, rfl, .inl ⟨⟨ws, SqL.of f1⟩, h4 xs _ m1 _ H1 l1 g1 (itl_s b xs) q1⟩⟩
      | _ => simp only [eb] at q1
  | tup xs =>
    cases r1 with
    | tup f1 f2 => exact ⟨_, rfl, .inr ⟨⟨_, f1⟩, h4 xs _ m1 _ H1 l1 g1 (itt_s f1 f2) q1⟩⟩
  | _ => exact q1.elim

def asStrs : List AV → Option (List Str)
  | [] => some []
  | .str i :: r => (asStrs r).map (i :: ·)
  | _ => none
theorem asStrs_eq : ∀ {xs : List AV} {ns : List Str}, asStrs xs = some ns → xs = ns.map AV.str
  | [], ns, h => by cases h; rfl
  | x :: r, ns, h => by
    cases x with
    | str i =>
      unfold asStrs at h
      cases e : asStrs r with
      | none => rw [e] at h; cases h
      | some l =>
        rw [e] at h
        cases h
        rw [asStrs_eq e]
        rfl
    | _ => cases h
theorem asStrs_map : ∀ ns : List Str, asStrs (ns.map AV.str) = some ns
  | [] => rfl
  | n :: ns => by
    show (asStrs (ns.map AV.str)).map (n :: ·) = _
    rw [asStrs_map ns]
    rfl
def aJoin (to te : ATE) : ATE := fun a m q => to a m fun x m1 => match x with
  | .str s => te a m1 fun y m2 => match y with
    | .ref b => match m2 b with
      | some (.lst xs) => match asStrs xs with
        | some ys => (ys.map (·.length)).sum + ys.length * s.length ≤ 16777216 ∧ q (.str (Txt.join s ys)) m2
        | none => False
      | _ => False
    | _ => False
  | _ => False
theorem ae_join {o e : Expr} {to te : ATE} {apos : Pos} (ho : AE X o to) (he : AE X e te) (hs : starEach [e] X.env = [(false, eval e X.env)] := by rfl) (hbase : attributeBase o "join" X.env (eval o X.env) = eval o X.env := by rfl) (hline : (apos.endLine == pos.line) = true := by rfl) :
    AE X (.Call (.Attribute o "join" apos) [e] [] pos) (aJoin to te) := peI (pe_join ho he hs hbase hline) fun σ H Q ⟨a, m, q, h1, h2, h3, h4⟩ => by
  refine ⟨a, m, _, h1, h2, h3, fun x m1 v H1 l1 g1 r1 q1 => ?_⟩
  cases x with
  | str s =>
    cases r1
    refine ⟨⟨s, rfl⟩, a, m1, _, h1.mono l1, g1, q1, fun y m2 u H2 l2 g2 r2 q2 => ?_⟩
    cases y with
    | ref b =>
      cases r2
      cases eb : m2 b with
      | none => simp only [eb] at q2
      | some ob =>
        cases ob with
        | lst xs =>
          cases en : asStrs xs with
          | none => simp only [eb, en] at q2
          | some ys =>
            simp only [eb, en] at q2
            obtain ⟨ws, f1, f2⟩ := g2 b _ eb
            rw [asStrs_eq en] at f2
            have e := SimVs.strs f2
            subst e
            exact ⟨s, b, ys, rfl, rfl, .inl (SqL.of f1), q2.1, h4 _ _ _ _ (l1.trans l2) g2 (.str _) q2.2⟩
        | _ => simp only [eb] at q2
    | _ => exact q2.elim
  | _ => exact q1.elim

theorem ae_ty {x : Str} {n : String} (hg : Gl X x) (hm : X.mg x = none) (hv : bootBuiltins x = some (.type n)) (hn : x ≠ "__name__" := by decide) (hd : (x == ("__debug__" : Str)) = false := by decide) : AE X (.Name x pos) (aC (.ty n)) := ae_c (pe_bltn (v := .ty n) hg hm hv rfl hn hd) fun _ => .ty n
theorem ae_gStr {x z : Str} (hg : Gl X x) (hm : ∃ t, X.mg x = some (.str z t)) (hd : (x == ("__debug__" : Str)) = false := by decide) : AE X (.Name x pos) (aC (.str z)) := by
  obtain ⟨t, hm⟩ := hm
  exact ae_c (pe_glob (v := .str z) hg hm ⟨t, rfl⟩ hd) fun _ => .str z
theorem ae_gInt {x : Str} {z : Int} (hg : Gl X x) (hm : ∃ t, X.mg x = some (.int z t)) (hd : (x == ("__debug__" : Str)) = false := by decide) : AE X (.Name x pos) (aC (.int z)) := by
  obtain ⟨t, hm⟩ := hm
  exact ae_c (pe_glob (v := .int z) hg hm ⟨t, rfl⟩ hd) fun _ => .int z
end
structure Def (P : Program) (w : World) (K : PySem.W.Frag) (mg : Str → Option Value) (base : Heap) (k : Nat) (x : Str) (ps : List Str) (sp : ASp) : Prop where
  ex : ∃ f fd, mg x = some (.ref f) ∧ PySem.W.keepIn K (.ref f) = true ∧ Binds K fd ps [] ∧ AFn P w K mg base k f fd ps sp
theorem Def.imp {P : Program} {w : World} {K : PySem.W.Frag} {mg : Str → Option Value} {base : Heap} {k : Nat} {x : Str} {ps : List Str} {sp sp' : ASp} (D : Def P w K mg base k x ps sp) (h : ∀ xs m q, sp' xs m q → sp xs m q) : Def P w K mg base k x ps sp' :=
  let ⟨f, fd, a, b, c, d⟩ := D.ex; ⟨f, fd, a, b, c, d.imp h⟩
theorem Def.up {P : Program} {w : World} {K : PySem.W.Frag} {mg : Str → Option Value} {base : Heap} {j k : Nat} {x : Str} {ps : List Str} {sp : ASp} (D : Def P w K mg base j x ps sp) (h : j ≤ k) : Def P w K mg base k x ps sp :=
  let ⟨f, fd, a, b, c, d⟩ := D.ex; ⟨f, fd, a, b, c, FnG.up d h⟩
structure Top (K : PySem.W.Frag) (mg : Str → Option Value) (x : Str) (st : Stmt) (ps : List Str) : Prop where
  ex : ∃ f fd, mg x = some (.ref f) ∧ Fun K x x st f fd ∧ Binds K fd ps []
theorem top_mk {K : PySem.W.Frag} {mg : Str → Option Value} {h : Heap} {x : Str} {st : Stmt} {ps : List Str} {f : Addr} {oc : Value} {od an : Option Addr} {osl : Array (Option Value)} {kV doc pm cdv ct : Value} (X : K.In h) (G : h.Ns mainGlobals mg)
    (a : PySem.W.nsIn K mainGlobals x = some (some (.ref f))) (l : K.lookup f = some ⟨oc, od, .func (PySem.W.fnOf x x (defArgs st) (defBody st) (defScope st) .none kV doc pm an cdv ct), osl⟩)
    (c : PySem.W.codeIn K cdv x = true) (k : PySem.W.keepIn K (.ref f) = true)
    (b : ∀ (kV doc pm : Value) (an : Option Addr) (cdv ct : Value) (us : List Value), us.length = ps.length → bindArgs (PySem.W.fnOf x x (defArgs st) (defBody st) (defScope st) .none kV doc pm an cdv ct) ⟨us, []⟩ = pure (ps.zip us)) : Top K mg x st ps :=
  ⟨f, _, PySem.W.mg_of X G a, fun_mk l c k, (fun_mk l c k).binds b⟩
section
variable {X : Cx} {k j : Nat} {ps : List Str} {sp : ASp} {x : Str} {p pos : Pos} {e : Expr} {es : List Expr} {t : ATA}
theorem ae_callN (D : Def X.prog X.w X.K X.mg X.base k x ps sp) (hr : Room j X.A) (hkj : k ≤ j) (hgd : X.A.guards = some []) (hg : Gl X x) (ha : AA X (e :: es) t) (nd : (x == ("__debug__" : Str)) = false := by decide)
    (se : starEach (e :: es) X.env = (false, eval e X.env) :: starEach es X.env := by rfl) (sp0 : (backTo pos (starEach es X.env)).any (·.1) = false := by rfl) : AE X (.Call (.Name x p) (e :: es) [] pos) (aCall sp [] t) := by
  obtain ⟨f, fd, hm, hk, hb, F⟩ := D.ex
  exact ae_call F (hr.mono hkj) hgd hg hm hk hb ha nd se sp0
theorem ae_callN0 (D : Def X.prog X.w X.K X.mg X.base k x ps sp) (hr : Room j X.A) (hkj : k ≤ j) (hgd : X.A.guards = some []) (hg : Gl X x) (nd : (x == ("__debug__" : Str)) = false := by decide) : AE X (.Call (.Name x p) [] [] pos) (aCall sp [] aNil) := by
  obtain ⟨f, fd, hm, hk, hb, F⟩ := D.ex
  exact ae_call0 F (hr.mono hkj) hgd hg hm hk hb nd
end
theorem okT {P : Program} {w : World} {K : PySem.W.Frag} {mg : Str → Option Value} {base : Heap} {x : Str} {st : Stmt} {N ps : List Str} {k : Nat} {sp : ASp} (T : Top K mg x st ps) (S : FnScope N ps (defScope st))
    (len : ∀ xs m q, sp xs m q → xs.length = ps.length)
    (hb : ∀ (f : Addr) (cdv : Value) (A : Around) (o : List Env) (s : Shared) (H : Hp) (E : XK), Room k (A.deeper (envOfC x (defScope st) s.heap.objs.size f cdv)) → A.guards = some [] →
      ∃ t, ASs (cxOf CX0 P w K mg base N x (defScope st) f cdv A o s H E).nox (defBody st) t ∧ ∀ H xs m q, sp xs m q → SimH K H m → ∃ m1, SimH K H m1 ∧ t ⟨fun _ m' => Fin K q .non m', fun v m' => Fin K q v m', fun _ _ => False, fun _ _ => False⟩ (startA N xs) m1) : Def P w K mg base (k + 1) x ps sp := by
  obtain ⟨f, fd, hm, F, B⟩ := T.ex
  exact ⟨f, fd, hm, F.kp, B, okB F S len fun cdv A o s H E hr hg => hb f cdv A o s H E hr hg⟩
def Reads (K : PySem.W.Frag) (N : List Str) (t : ATS) (sp : ASp) : Prop := ∀ H xs m q, sp xs m q → SimH K H m → ∃ m1, SimH K H m1 ∧ t ⟨fun _ m' => Fin K q .non m', fun v m' => Fin K q v m', fun _ _ => False, fun _ _ => False⟩ (startA N xs) m1
theorem room164 {k : Nat} {A : Around} (hr : Room k A) : A.units + 164 < cLine := by
  have := hr.un
  omega

def aNilEq (f : Bool → Bool) (ta : ATE) : ATE := fun a m q => ta a m fun x m1 => match x with
  | .ref b => match m1 b with
    | some (.lst xs) => q (.bl (f xs.isEmpty)) m1
    | _ => False
  | _ => False
theorem nil_eq {K : PySem.W.Frag} {f : Bool → Bool} {ta : ATE} {σ : L2.St} {H : Hp} {Q : VK} (h : clE K (aNilEq f ta) σ H Q) : tOp (cl2 K (bEqB f)) (clE K ta) (clE K (aLst aNil)) σ H Q := by
  obtain ⟨a, m, q, h1, h2, h3, h4⟩ := h
  refine ⟨a, m, _, h1, h2, h3, fun x m1 v H1 l1 g1 r1 q1 => ?_⟩
  cases x with
  | ref b =>
    cases r1
    cases eb : m1 b with
    | none => simp only [eb] at q1
    | some ob =>
      cases ob with
      | lst xs =>
        simp only [eb] at q1
        refine ⟨a, m1, fun y m2 => ∃ p, y = .ref p ∧ m1 p = none ∧ m2 = updA m1 p (.lst []), h1.mono l1, g1, ⟨by decide, fun p hp => ⟨p, rfl, hp, rfl⟩⟩, ?_⟩
        rintro _ _ u H2 l2 g2 r2 ⟨p, rfl, hp, rfl⟩
        have nb : b ≠ p := fun z => by rw [← z, eb] at hp; cases hp
        have sub : Sub m1 (updA m1 p (.lst [])) := Sub.refl.new hp
        refine ⟨.ref b, .ref p, _, fun z m3 => z = .bl (f xs.isEmpty) ∧ m3 = updA m1 p (.lst []), .ref b, r2, g2, ?_, ?_⟩
        · show (match updA m1 p (.lst []) b, updA m1 p (.lst []) p with | some (.lst xs), some (.lst ys) => _ | _, _ => False)
          rw [updA_ne nb, updA_same, eb]
          cases xs with
          | nil => exact ⟨by decide, by decide, by decide, rfl, rfl⟩
          | cons x xs => exact ⟨rfl, rfl⟩
        · rintro _ _ w H3 l3 g3 r3 ⟨rfl, rfl⟩
          exact h4 _ m1 w H3 (l1.trans (l2.trans l3)) (g3.sub sub g1.own) r3 q1
      | _ => simp only [eb] at q1
  | _ => exact q1.elim
section
variable {X : Cx} {pos p2 : Pos} {a : Expr} {ta : ATE}
theorem ae_eqNil (hu : X.A.units + 164 < cLine) (ha : AE X a ta) : AE X (.Compare a [.Eq] [.List [] p2] pos) (aNilEq id ta) := peI (pe_cmpR (ob_eq hu) ha (ae_lst aa_nil) (nomark _)) fun _ _ _ h => nil_eq h
theorem ae_neNil (hu : X.A.units + 164 < cLine) (ha : AE X a ta) : AE X (.Compare a [.NotEq] [.List [] p2] pos) (aNilEq not ta) := peI (pe_cmpR (ob_ne hu) ha (ae_lst aa_nil) (nomark _)) fun _ _ _ h => nil_eq h
theorem at_eqNil (hu : X.A.units + 164 < cLine) (ha : AE X a ta) : AT X (.Compare a [.Eq] [.List [] p2] pos) (aTest (aNilEq id ta)) := ptI (pt_cmpR (ob_eq hu) ha (ae_lst aa_nil) (nomark _)) fun _ _ _ h => test_of h fun _ z => nil_eq z
theorem at_neNil (hu : X.A.units + 164 < cLine) (ha : AE X a ta) : AT X (.Compare a [.NotEq] [.List [] p2] pos) (aTest (aNilEq not ta)) := ptI (pt_cmpR (ob_ne hu) ha (ae_lst aa_nil) (nomark _)) fun _ _ _ h => test_of h fun _ z => nil_eq z
end

theorem seq_i {K : PySem.W.Frag} {t u : ATS} {d : AEnds} {a : ASt} {m : AHp} (h : t ⟨fun a' m' => Fg K m' (u d a'), d.rt, d.bk, d.ct⟩ a m) : aSeq K t u d a m := h
theorem seq_n {K : PySem.W.Frag} {t u : ATS} {d : AEnds} {a : ASt} {m : AHp} (h : t ⟨fun a' m' => Fg K m' (u d a'), d.rt, d.bk, d.ct⟩ a m) : Fg K m (aSeq K t u d a) := .keep (seq_i h)
theorem seq_join {K : PySem.W.Frag} {t u : ATS} {d : AEnds} {a : ASt} {m : AHp} (p : ASt → AHp → Prop) (h1 : ∀ a' m', p a' m' → u d a' m') (h2 : ∀ n : ASt → AHp → Prop, (∀ a' m', Fg K m' (p a') → n a' m') → t ⟨n, d.rt, d.bk, d.ct⟩ a m) : aSeq K t u d a m :=
  h2 _ fun a' _ ⟨m2, z, q⟩ => ⟨m2, z, h1 a' m2 q⟩
theorem updA_old {m : AHp} {p a : Addr} {o : AO} (hp : m p = none) (ha : (m a).isSome = true) : updA m p o a = m a := updA_ne fun e => by
  rw [e, hp] at ha
  cases ha
section
variable {α : Type} {x y z w : α} {xs : List α}
theorem at0 : atI (x :: xs) 0 = some x := by unfold atI ixN; simp
theorem at1 : atI (x :: y :: xs) 1 = some y := by
  unfold atI ixN
  rw [if_pos (by decide), if_pos (by simp only [List.length_cons]; omega)]
  rfl
theorem at2 : atI (x :: y :: z :: xs) 2 = some z := by
  unfold atI ixN
  rw [if_pos (by decide), if_pos (by simp only [List.length_cons]; omega)]
  rfl
theorem at3 : atI (x :: y :: z :: w :: xs) 3 = some w := by
  unfold atI ixN
  rw [if_pos (by decide), if_pos (by simp only [List.length_cons]; omega)]
  rfl
theorem ixL0 : ixN (x :: xs).length 0 = some 0 := by
  unfold ixN
  rw [if_pos (by decide), if_pos (by simp only [List.length_cons]; omega)]
  rfl
theorem ixL1 : ixN (x :: y :: xs).length 1 = some 1 := by
  unfold ixN
  rw [if_pos (by decide), if_pos (by simp only [List.length_cons]; omega)]
  rfl
theorem ixL2 : ixN (x :: y :: z :: xs).length 2 = some 2 := by
  unfold ixN
  rw [if_pos (by decide), if_pos (by simp only [List.length_cons]; omega)]
  rfl
theorem set0 : (x :: xs).set 0 w = w :: xs := rfl
theorem set1 : (x :: y :: xs).set 1 w = x :: w :: xs := rfl
theorem set2 : (x :: y :: z :: xs).set 2 w = x :: y :: w :: xs := rfl
end
theorem Fg.drop1 {K : PySem.W.Frag} {m : AHp} {p : Addr} {o : AO} {P : AHp → Prop} (w : Own m) (hp : m p = none) (h : P m) : Fg K (updA m p o) P := .drop w (Sub.refl.new hp) h
theorem at_lt {α : Type} {xs : List α} {i : Int} (h0 : 0 ≤ i) (h1 : i < xs.length) : ∃ x, atI xs i = some x ∧ x ∈ xs := by
  have h : i.toNat < xs.length := by omega
  refine ⟨xs[i.toNat], ?_, List.getElem_mem h⟩
  unfold atI ixN
  rw [if_pos h0, if_pos h1]
  exact List.getElem?_eq_getElem h

section
variable {K : PySem.W.Frag} {H : Hp} {m m' : AHp} {d c : Addr}
theorem deck_open (g : SimH K H m) (e : m d = some (.deck c)) : ∃ (ns : List Int) (z n : Int), ns.length ≤ 63 ∧ 0 ≤ z ∧ z < 2 ^ 32 ∧ 0 ≤ n ∧ d ≠ c ∧ SimH K H (updA (updA m c (.lst (ns.map AV.int))) d (.lst [.ref c, .int z, .int n])) := by
  obtain ⟨ec, ns, z, n, h1, h2, h3, h4, h5, h6⟩ := g d _ e
  have ne : d ≠ c := fun q => by
    subst q
    rw [e] at ec
    cases ec
  refine ⟨ns, z, n, h3, h4, h5, h6, ne, fun b o q => ?_⟩
  by_cases hb : b = d
  · subst hb
    rw [updA_same] at q
    cases q
    exact ⟨_, h1, .cons (.ref _) (.cons (.int _) (.cons (.int _) .nil))⟩
  · rw [updA_ne hb] at q
    by_cases hc : b = c
    · subst hc
      rw [updA_same] at q
      cases q
      exact ⟨_, h2, SimVs.of_ints⟩
    · rw [updA_ne hc] at q
      have z := g b o q
      cases o with
      | deck c' =>
        have n1 : c' ≠ d := fun w => by
          have := z.1
          rw [w, e] at this
          cases this
        have n2 : c' ≠ c := fun w => by
          have := z.1
          rw [w, ec] at this
          cases this
          exact hb rfl
        exact ⟨by rw [updA_ne n1, updA_ne n2]; exact z.1, z.2⟩
      | _ => exact z
theorem deck_back (g : SimH K H m') (w : Own m) (e : m d = some (.deck c)) (k : ∀ b o, b ≠ d → b ≠ c → m b = some o → m' b = some o) {ns : List Int} {z n : Int} (h1 : m' d = some (.lst [.ref c, .int z, .int n])) (h2 : m' c = some (.lst (ns.map AV.int)))
    (h3 : ns.length ≤ 63) (h4 : 0 ≤ z) (h5 : z < 2 ^ 32) (h6 : 0 ≤ n) : SimH K H m := by
  have ec := w d c e
  intro b o q
  by_cases hb : b = d
  · subst hb
    rw [e] at q
    cases q
    obtain ⟨ws, f1, f2⟩ := g b _ h1
    obtain ⟨us, f3, f4⟩ := g c _ h2
    have e2 := SimVs.ints f4
    subst e2
    cases f2 with
    | cons r1 f2 =>
      cases r1
      cases f2 with
      | cons r2 f2 =>
        cases r2
        cases f2 with
        | cons r3 f2 =>
          cases r3
          cases f2
          exact ⟨ec, ns, z, n, f1, f3, h3, h4, h5, h6⟩
  · by_cases hc : b = c
    · subst hc
      rw [ec] at q
      cases q
      exact g.there h2
    · have z := g b o (k b o hb hc q)
      cases o with
      | deck c' => exact ⟨w b c' q, z.2⟩
      | _ => exact z
theorem deck_new (g : SimH K H m') (w : Own m) (s : Sub m m') (ed : m d = none) (ec : m c = none) (ne : d ≠ c) {ns : List Int} {z n : Int} (h1 : m' d = some (.lst [.ref c, .int z, .int n])) (h2 : m' c = some (.lst (ns.map AV.int)))
    (h3 : ns.length ≤ 63) (h4 : 0 ≤ z) (h5 : z < 2 ^ 32) (h6 : 0 ≤ n) : SimH K H (updA (updA m c (.hid d)) d (.deck c)) := by
  have w2 : Own (updA (updA m c (.hid d)) d (.deck c)) := by
    intro a b q
    by_cases ha : a = d
    · subst ha
      rw [updA_same] at q
      cases q
      rw [updA_ne (Ne.symm ne), updA_same]
    · rw [updA_ne ha] at q
      by_cases hc : a = c
      · subst hc
        rw [updA_same] at q
        cases q
      · rw [updA_ne hc] at q
        have q2 := w a b q
        have n1 : b ≠ d := fun z => by rw [z, ed] at q2; cases q2
        have n2 : b ≠ c := fun z => by rw [z, ec] at q2; cases q2
        rw [updA_ne n1, updA_ne n2]
        exact q2
  refine deck_back (m := updA (updA m c (.hid d)) d (.deck c)) g w2 updA_same (fun b o n1 n2 q => ?_) h1 h2 h3 h4 h5 h6
  rw [updA_ne n1, updA_ne n2] at q
  exact s b o q
end
end Ab

namespace Ab
open PySem PySem.Spec PyProof.Rows L2
section
variable {K : PySem.W.Frag} {m m' : AHp} {p a : Addr} {o u : AO}
theorem updA_keep (hp : m p = none) (e : m a = some u) : updA m p o a = some u := by
  rw [updA_ne fun z => by rw [← z, e] at hp; cases hp]
  exact e
theorem Sub.alloc (s : Sub m m') (h : m' p = Option.none) : Sub m (updA m' p o) := s.new (s.none h)
theorem Sub.over (s : Sub m (updA m' p o)) (h : m p = Option.none) : Sub m (updA (updA m' p o) p u) := by
  rw [updA_twice]
  intro b w z
  have hb : b ≠ p := fun e => by rw [e, h] at z; cases z
  have q := s b w z
  rw [updA_ne hb] at q ⊢
  exact q
theorem Own.free (w : Own m) (hp : m p = none) (no : ∀ c, o ≠ .deck c) : Own (updA m p o) := w.put (fun b e => by rw [hp] at e; cases e) no

theorem lc_rel {g : ATG} {tt : ATT} {te : ATE} {G : AHp → Prop} {D : Addr} {q : AK} {t : ASt} (R : AV → Option AV → Prop) (hG : ∀ acc, G (updA m D (.lst acc))) : ∀ (xs acc : List AV),
    (∀ x ∈ xs, ∀ acc' : List AV, ∀ k : Option AV → AHp → Prop, (∀ o, R x o → k o (updA m D (.lst acc'))) → g x t (updA m D (.lst acc')) fun a2 m2 => tt a2 m2 fun b m3 => if b = true then te a2 m3 fun y m4 => Fg K m4 (k (some y)) else Fg K m3 (k none)) →
    acc.length + xs.length < sizeLine → (∀ os : List (Option AV), Paired R xs os → q (.ref D) (updA m D (.lst (acc ++ os.filterMap id)))) → lcL K g tt te G D q t xs (updA m D (.lst acc))
  | [], acc, _, _, h => ⟨hG acc, by simpa using h [] .nil⟩
  | x :: xs, acc, st, hl, h => by
    have hl : acc.length + (xs.length + 1) < sizeLine := hl
    refine ⟨hG acc, ?_⟩
    refine st x List.mem_cons_self acc (fun o m5 => match o with
      | some y => match m5 D with
        | some (.lst acc) => acc.length < sizeLine ∧ lcL K g tt te G D q t xs (updA m5 D (.lst (acc ++ [y])))
        | _ => False
      | none => lcL K g tt te G D q t xs m5) fun o r => ?_
    cases o with
    | none => exact lc_rel R hG xs acc (fun y hy => st y (List.mem_cons_of_mem _ hy)) (by omega) fun os z => h (none :: os) (.cons r z)
    | some y =>
      simp only [updA_same, updA_twice]
      refine ⟨by omega, lc_rel R hG xs (acc ++ [y]) (fun y hy => st y (List.mem_cons_of_mem _ hy)) (by rw [List.length_append, List.length_singleton]; omega) fun os z => ?_⟩
      have := h (some y :: os) (.cons r z)
      simpa using this
theorem lc_fn {g : ATG} {tt : ATT} {te : ATE} {G : AHp → Prop} {D : Addr} {q : AK} {t : ASt} (f : AV → Option AV) (hG : ∀ acc, G (updA m D (.lst acc))) (xs acc : List AV)
    (st : ∀ x ∈ xs, ∀ acc' : List AV, ∀ k : Option AV → AHp → Prop, k (f x) (updA m D (.lst acc')) → g x t (updA m D (.lst acc')) fun a2 m2 => tt a2 m2 fun b m3 => if b = true then te a2 m3 fun y m4 => Fg K m4 (k (some y)) else Fg K m3 (k none))
    (hl : acc.length + xs.length < sizeLine) (h : q (.ref D) (updA m D (.lst (acc ++ xs.filterMap f)))) : lcL K g tt te G D q t xs (updA m D (.lst acc)) := by
  refine lc_rel (fun x o => o = f x) hG xs acc (fun x hx acc' k z => st x hx acc' k (z _ rfl)) hl fun os z => ?_
  have e : os.filterMap id = xs.filterMap f := by
    clear st hl h
    induction z with
    | nil => rfl
    | cons r _ ih =>
      subst r
      rw [List.filterMap_cons, List.filterMap_cons, ih]
      rfl
  rw [e]
  exact h
theorem lc_map0 {β : Type} {g : ATG} {tt : ATT} {te : ATE} {G : AHp → Prop} {D : Addr} {q : AK} {t : ASt} (f : β → AV) (P : β → Prop) (hG : ∀ acc, G (updA m D (.lst acc))) (xs : List AV)
    (st : ∀ x ∈ xs, ∀ acc' : List AV, ∀ k : Option AV → AHp → Prop, (∀ b, P b → k (some (f b)) (updA m D (.lst acc'))) → g x t (updA m D (.lst acc')) fun a2 m2 => tt a2 m2 fun b m3 => if b = true then te a2 m3 fun y m4 => Fg K m4 (k (some y)) else Fg K m3 (k none))
    (hl : xs.length < sizeLine) (h : ∀ bs : List β, bs.length = xs.length → (∀ b ∈ bs, P b) → q (.ref D) (updA m D (.lst (bs.map f)))) : lcL K g tt te G D q t xs (updA m D (.lst [])) := by
  refine lc_rel (fun _ o => ∃ b, P b ∧ o = some (f b)) hG xs [] (fun x hx acc k z => st x hx acc k fun b hb => z _ ⟨b, hb, rfl⟩) (by simpa using hl) fun os z => ?_
  have e : ∃ bs : List β, bs.length = xs.length ∧ (∀ b ∈ bs, P b) ∧ os.filterMap id = bs.map f := by
    clear st hl h
    induction z with
    | nil => exact ⟨[], rfl, fun _ z => (List.not_mem_nil z).elim, rfl⟩
    | cons r _ ih =>
      obtain ⟨bs, h1, h2, h3⟩ := ih
      obtain ⟨b, hb, rfl⟩ := r
      refine ⟨b :: bs, by rw [List.length_cons, List.length_cons, h1], fun c hc => ?_, ?_⟩
      · rcases List.mem_cons.mp hc with rfl | hc
        · exact hb
        · exact h2 c hc
      · rw [List.filterMap_cons, h3]; rfl
  obtain ⟨bs, h1, h2, h3⟩ := e
  rw [h3]
  exact h bs h1 h2
theorem lc_rel0 {g : ATG} {tt : ATT} {te : ATE} {G : AHp → Prop} {D : Addr} {q : AK} {t : ASt} (R : AV → Option AV → Prop) (hG : ∀ acc, G (updA m D (.lst acc))) (xs : List AV)
    (st : ∀ x ∈ xs, ∀ acc' : List AV, ∀ k : Option AV → AHp → Prop, (∀ o, R x o → k o (updA m D (.lst acc'))) → g x t (updA m D (.lst acc')) fun a2 m2 => tt a2 m2 fun b m3 => if b = true then te a2 m3 fun y m4 => Fg K m4 (k (some y)) else Fg K m3 (k none))
    (hl : xs.length < sizeLine) (h : ∀ os : List (Option AV), Paired R xs os → q (.ref D) (updA m D (.lst (os.filterMap id)))) : lcL K g tt te G D q t xs (updA m D (.lst [])) :=
  lc_rel R hG xs [] st (by simpa using hl) fun os z => by simpa using h os z
theorem lc_fn0 {g : ATG} {tt : ATT} {te : ATE} {G : AHp → Prop} {D : Addr} {q : AK} {t : ASt} (f : AV → Option AV) (hG : ∀ acc, G (updA m D (.lst acc))) (xs : List AV)
    (st : ∀ x ∈ xs, ∀ acc' : List AV, ∀ k : Option AV → AHp → Prop, k (f x) (updA m D (.lst acc')) → g x t (updA m D (.lst acc')) fun a2 m2 => tt a2 m2 fun b m3 => if b = true then te a2 m3 fun y m4 => Fg K m4 (k (some y)) else Fg K m3 (k none))
    (hl : xs.length < sizeLine) (h : q (.ref D) (updA m D (.lst (xs.filterMap f)))) : lcL K g tt te G D q t xs (updA m D (.lst [])) :=
  lc_fn f hG xs [] st (by simpa using hl) (by simpa using h)

theorem for_inv {g : ATG} {tb : ATS} {G : AHp → Prop} {d : AEnds} (I : List AV → ASt → AHp → Prop)
    (st : ∀ x r t m, I (x :: r) t m → G m ∧ ∀ n : ASt → AHp → Prop, (∀ t' m', Fg K m' (I r t') → n t' m') → g x t m fun a2 m2 => tb ⟨n, d.rt, d.nx, n⟩ a2 m2)
    (fin : ∀ t m, I [] t m → G m ∧ d.nx t m) : ∀ xs t m, I xs t m → forL K g tb G d xs t m
  | [], t, m, h => fin t m h
  | x :: xs, t, m, h => ⟨(st x xs t m h).1, (st x xs t m h).2 _ fun t' m' ⟨m2, z, q⟩ => ⟨m2, z, for_inv I st fin xs t' m2 q⟩⟩
theorem while_inv {c : ATT} {tb : ATS} {d : AEnds} (I : Nat → ASt → AHp → Prop)
    (st : ∀ n t m, I n t m → ∀ k : ASt → AHp → Prop, (∀ j t' m', j < n → Fg K m' (I j t') → k t' m') → c t m fun b m1 => if b = true then tb ⟨k, d.rt, d.nx, k⟩ t m1 else d.nx t m1) : ∀ n t m, I n t m → aWhile K c tb d t m := by
  have main : ∀ n t m, (∃ j, j < n ∧ I j t m) → whileN K c tb d n t m := by
    intro n
    induction n with
    | zero => rintro t m ⟨j, hj, _⟩; omega
    | succ n ih =>
      rintro t m ⟨j, hj, h⟩
      exact st j t m h _ fun i t' m' hi ⟨m2, z, q⟩ => ⟨m2, z, ih t' m2 ⟨i, by omega, q⟩⟩
  exact fun n t m h => ⟨n + 1, main _ t m ⟨n, Nat.lt_succ_self n, h⟩⟩

theorem sIx_int {n d : Nat} {i : Int} (h : 0 ≤ i) : HT.sIx n d (some i) = min i.toNat n := by
  show (if i < 0 then (i + (n : Int)).toNat else min i.toNat n) = min i.toNat n
  rw [if_neg (by omega)]
def cutG {α : Type} (xs : List α) (lo hi : Option Int) : List α := (xs.drop (HT.sIx xs.length 0 lo)).take (HT.sIx xs.length xs.length hi - HT.sIx xs.length 0 lo)
section
variable {α : Type} {xs : List α} {i j : Int}
theorem cutG_to (h : 0 ≤ j) : cutG xs none (some j) = xs.take j.toNat := by
  unfold cutG
  rw [sIx_int h, HT.sIx_none, List.drop_zero, Nat.sub_zero]
  by_cases hl : j.toNat ≤ xs.length
  · rw [Nat.min_eq_left hl]
  · rw [Nat.min_eq_right (by omega), List.take_of_length_le (Nat.le_refl _), List.take_of_length_le (by omega)]
theorem cutG_from (h : 0 ≤ i) : cutG xs (some i) none = xs.drop i.toNat := by
  unfold cutG
  rw [sIx_int h, HT.sIx_none]
  by_cases hl : i.toNat ≤ xs.length
  · rw [Nat.min_eq_left hl, List.take_of_length_le (by rw [List.length_drop]; omega)]
  · rw [Nat.min_eq_right (by omega), List.drop_eq_nil_of_le (Nat.le_refl _), List.drop_eq_nil_of_le (by omega), List.take_nil]
theorem cutG_at (h : 0 ≤ i) (h2 : 0 ≤ j) : cutG xs (some i) (some j) = (xs.drop i.toNat).take (j.toNat - i.toNat) := by
  unfold cutG
  rw [sIx_int h, sIx_int h2]
  by_cases hl : i.toNat ≤ xs.length
  · rw [Nat.min_eq_left hl]
    by_cases hj : j.toNat ≤ xs.length
    · rw [Nat.min_eq_left hj]
    · rw [Nat.min_eq_right (show xs.length ≤ j.toNat by omega), List.take_of_length_le (by rw [List.length_drop]; omega), List.take_of_length_le (by rw [List.length_drop]; omega)]
  · rw [Nat.min_eq_right (show xs.length ≤ i.toNat by omega), List.drop_eq_nil_of_le (Nat.le_refl _), List.drop_eq_nil_of_le (show xs.length ≤ i.toNat by omega), List.take_nil, List.take_nil]
theorem cutG_all : cutG xs none none = xs := by
  unfold cutG
  rw [HT.sIx_none, HT.sIx_none, List.drop_zero, Nat.sub_zero, List.take_length]
theorem cutG_mem {x : α} {lo hi : Option Int} (h : x ∈ cutG xs lo hi) : x ∈ xs := List.mem_of_mem_drop (List.mem_of_mem_take h)
end
theorem cutA_G (xs : List AV) (lo hi : Option Int) : cutA xs lo hi = cutG xs lo hi := rfl
theorem cutS_G (z : Str) (lo hi : Option Int) : (cutS z lo hi).cps.toList = cutG z.cps.toList lo hi := by
  unfold cutS cutG Str.length
  rw [Array.length_toList]
theorem map_take {α β : Type} (f : α → β) (xs : List α) (n : Nat) : (xs.map f).take n = (xs.take n).map f := List.map_take.symm

theorem str_len (z : Str) : z.length = z.cps.toList.length := by
  unfold Str.length
  rw [Array.length_toList]
theorem cps_add (a b : Str) : (a ++ b).cps.toList = a.cps.toList ++ b.cps.toList := Array.toList_append
theorem len_add (a b : Str) : (a ++ b).length = a.length + b.length := by rw [str_len, cps_add, List.length_append, ← str_len, ← str_len]
theorem joinL_chars : ∀ cs : List Nat, TL.joinL [] (cs.map fun i => [i]) = cs
  | [] => rfl
  | [_] => rfl
  | c :: d :: r => by
    show [c] ++ ([] ++ TL.joinL [] ((d :: r).map fun i => [i])) = _
    rw [joinL_chars (d :: r)]
    rfl
theorem join_chars (cs : List Nat) : Txt.join (Str.ofString "") (cs.map fun i => (⟨#[i]⟩ : Str)) = ⟨cs.toArray⟩ := by
  have e := SX.join_S [] (cs.map fun i => [i])
  rw [List.map_map] at e
  have e2 : (SX.S [] : Str) = Str.ofString "" := rfl
  rw [e2] at e
  refine Eq.trans ?_ (e.trans (by rw [joinL_chars]))
  rfl
def Word (w : Str) : Prop := 1 ≤ w.length ∧ w.length ≤ 8 ∧ ∀ c ∈ w.cps.toList, 97 ≤ c ∧ c ≤ 122
theorem Word.ok {w : Str} (h : Word w) : PyData.strOk w = true := by
  unfold PyData.strOk
  rw [← Array.all_toList, List.all_eq_true]
  intro c hc
  have := h.2.2 c hc
  exact decide_eq_true (by omega)
theorem Word.ne {w : Str} (h : Word w) : w ≠ "?" := by
  rintro rfl
  have := h.2.2 63 (by decide)
  omega
def isWord (w : Str) : Bool := decide (1 ≤ w.length) && decide (w.length ≤ 8) && w.cps.toList.all fun c => decide (97 ≤ c) && decide (c ≤ 122)
theorem isWord_iff (w : Str) : isWord w = true ↔ Word w := by
  unfold isWord Word
  simp only [Bool.and_eq_true, decide_eq_true_eq, List.all_eq_true, and_assoc]
end
end Ab

namespace Ab
open PySem PySem.Spec PyProof.Rows L2

section
variable {K : PySem.W.Frag} {H H' : Hp} {m m' : AHp} {d : Addr} {od : Obj} {kvs : List (Key × AV)} {ws : List (Key × V)}
theorem SimH.lockD (g : SimH K H m) (e : m d = some (.dK kvs)) (f : H d = some (.dK ws)) (r : SimK K H kvs ws) : SimH K (upd H d (.frz od (.dK ws))) (updA m d (.lkd kvs)) :=
  g.put (.dict f) (fun b u hb e => by rw [upd_ne hb]; exact e) (.lkd kvs) (fun b z => by rw [e] at z; cases z) ⟨od, ws, upd_same, SimK.mono (.dict f) r⟩
theorem Le0.unlock (f : H d = some (.frz od (.dK ws))) : Le0 K H (L2.upd H d (.dK ws)) := by
  refine ⟨fun a us h => ?_, fun a o us h => ?_⟩
  · rcases h with (h | ⟨b, h⟩) | h
    · exact .inl (.inl (by rw [upd_ne (fun z => by rw [z, f] at h; cases h)]; exact h))
    · exact .inl (.inr ⟨b, by rw [upd_ne (fun z => by rw [z, f] at h; cases h)]; exact h⟩)
    · exact .inr h
  · rw [upd_ne (fun z => by rw [z, f] at h; cases h)]
    exact h
theorem Le.around (f : H d = some (.dK ws)) (l : Le K (L2.upd H d (.frz od (.dK ws))) H') : Le K H (L2.upd H' d (.dK ws)) := by
  have ne : ∀ {a : Addr} {u : HO}, H a = some u → u ≠ .dK ws → a ≠ d := fun {a u} e n z => by
    subst z
    rw [f] at e
    cases e
    exact n rfl
  have l1 : Le K H (L2.upd H d (.frz od (.dK ws))) := .dict f
  refine ⟨⟨fun a us h => ?_, fun a o us h => ?_⟩, fun a o us h => ?_⟩
  · have q := l.tup _ _ (l1.tup _ _ h)
    have f2 := l.lkd _ _ _ (show L2.upd H d (.frz od (.dK ws)) d = _ from upd_same)
    exact (Le0.unlock f2).tup _ _ q
  · rw [upd_ne (ne h (fun z => by cases z))]
    exact l.frz _ _ _ (l1.frz _ _ _ h)
  · rw [upd_ne (ne h (fun z => by cases z))]
    exact l.lkd _ _ _ (l1.lkd _ _ _ h)
theorem SimH.freeD (g : SimH K H m) (e : m d = some (.lkd kvs)) (f : H d = some (.frz od (.dK ws))) : SimH K (upd H d (.dK ws)) (updA m d (.dK kvs)) := by
  obtain ⟨o2, us, f2, r⟩ := g d _ e
  rw [f] at f2
  cases f2
  exact g.put0 (.unlock f) (fun b u hb e => by rw [upd_ne hb]; exact e) (.dK kvs) (fun b z => by rw [e] at z; cases z) ⟨ws, upd_same, SimK.mono0 (.unlock f) r⟩
end
section
variable {X : Cx} {st : Stmt} {t : ATS} {e : Expr} {te : ATE}
def aLock (t : ATS) : ATS := fun D a m => ∃ d kvs, m d = some (.dK kvs) ∧
  t ⟨fun a' m' => m' d = some (.lkd kvs) ∧ D.nx a' (updA m' d (.dK kvs)), fun v m' => m' d = some (.lkd kvs) ∧ D.rt v (updA m' d (.dK kvs)), fun a' m' => m' d = some (.lkd kvs) ∧ D.bk a' (updA m' d (.dK kvs)), fun a' m' => m' d = some (.lkd kvs) ∧ D.ct a' (updA m' d (.dK kvs))⟩ a (updA m d (.lkd kvs))
def aLockE (t : ATE) : ATE := fun a m q => ∃ d kvs, m d = some (.dK kvs) ∧ t a (updA m d (.lkd kvs)) fun v m' => m' d = some (.lkd kvs) ∧ q v (updA m' d (.dK kvs))
theorem as_lock (h : AS X st t) : AS X st (aLock t) := psI (ps_lock h) fun D σ H ⟨a, m, dd, h1, h2, ⟨d, kvs, e, q⟩, h4⟩ => by
  obtain ⟨ws, f1, f2⟩ := h2 d _ e
  have l0 : ∀ od : Obj, Le X.K H (upd H d (.frz od (.dK ws))) := fun _ => .dict f1
  refine ⟨d, .dK ws, f1, True.intro, fun od => ⟨a, _, _, h1.mono (l0 od), h2.lockD e f1 f2, q, ?_, ?_, ?_, ?_⟩⟩
  · exact fun t' m' σ' H' l s g ⟨em, q⟩ => ⟨l.lkd _ _ _ upd_same, h4.nx t' _ σ' _ (.around f1 l) (s.mono0 (.unlock (l.lkd _ _ _ upd_same))) (g.freeD em (l.lkd _ _ _ upd_same)) q⟩
  · exact fun v m' u H' l g r ⟨em, q⟩ => ⟨l.lkd _ _ _ upd_same, h4.rt v _ u _ (.around f1 l) (g.freeD em (l.lkd _ _ _ upd_same)) (r.mono0 (.unlock (l.lkd _ _ _ upd_same))) q⟩
  · exact fun t' m' σ' H' l s g ⟨em, q⟩ => ⟨l.lkd _ _ _ upd_same, h4.bk t' _ σ' _ (.around f1 l) (s.mono0 (.unlock (l.lkd _ _ _ upd_same))) (g.freeD em (l.lkd _ _ _ upd_same)) q⟩
  · exact fun t' m' σ' H' l s g ⟨em, q⟩ => ⟨l.lkd _ _ _ upd_same, h4.ct t' _ σ' _ (.around f1 l) (s.mono0 (.unlock (l.lkd _ _ _ upd_same))) (g.freeD em (l.lkd _ _ _ upd_same)) q⟩
theorem ae_lock (h : AE X e te) : AE X e (aLockE te) := peI (pe_lock h) fun σ H Q ⟨a, m, qq, h1, h2, ⟨d, kvs, e, q⟩, h4⟩ => by
  obtain ⟨ws, f1, f2⟩ := h2 d _ e
  exact ⟨d, .dK ws, f1, True.intro, fun od => ⟨a, _, _, h1.mono (.dict f1), h2.lockD e f1 f2, q, fun v m' u H' l g r ⟨em, q⟩ =>
    ⟨l.lkd _ _ _ upd_same, h4 v _ u _ (.around f1 l) (g.freeD em (l.lkd _ _ _ upd_same)) (r.mono0 (.unlock (l.lkd _ _ _ upd_same))) q⟩⟩⟩
end

section
variable {X : Cx} {pos : Pos} {tg e : Expr} {te : ATE}
def lkAt (x : AV) (m : AHp) (k : List (Key × AV) → Prop) : Prop := match x with
  | .ref d => match m d with
    | some (.lkd kvs) => k kvs
    | _ => False
  | _ => False
theorem lkAt_at {x : AV} {m : AHp} {k : List (Key × AV) → Prop} (h : lkAt x m k) : ∃ d kvs, x = .ref d ∧ m d = some (.lkd kvs) ∧ k kvs := by
  unfold lkAt at h
  split at h
  · rename_i d
    split at h
    · rename_i kvs e
      exact ⟨d, kvs, rfl, e, h⟩
    · exact h.elim
  · exact h.elim
def wKeys (te : ATE) : ATI := fun a m q => te a m fun x m1 => lkAt x m1 fun kvs => q (kvs.map fun kv => kA kv.1) (fun _ => True) m1
def wVals (te : ATE) : ATI := fun a m q => te a m fun x m1 => lkAt x m1 fun kvs => q (kvs.map (·.2)) (fun _ => True) m1
def wItems (te : ATE) : ATI := fun a m q => te a m fun x m1 => lkAt x m1 fun kvs => q (kvs.map fun kv => .tup [kA kv.1, kv.2]) (fun _ => True) m1
theorem simK_get {K : PySem.W.Frag} {H : Hp} {kvs : List (Key × AV)} {ws : List (Key × V)} (h : SimK K H kvs ws) {i : Nat} {k : Key} {v : V} (e : ws[i]? = some (k, v)) : ∃ x, kvs[i]? = some (k, x) ∧ SimV K H x v := by
  induction h generalizing i with
  | nil => simp at e
  | @cons p q ps qs r _ ih =>
    cases i with
    | zero =>
      simp at e
      subst e
      obtain ⟨a, x⟩ := p
      obtain ⟨r1, r2⟩ := r
      have r1 : a = k := r1
      subst r1
      exact ⟨x, rfl, r2⟩
    | succ i => exact ih (i := i) (by simpa using e)
theorem simA_key {K : PySem.W.Frag} {H : Hp} (k : Key) : SimV K H (kA k) (kV k) := by cases k <;> constructor
theorem ai_keys (h : AE X e te) : AI X tg e (wKeys te) := piI (pi_keys h) fun σ H R ⟨a, m, q, h1, h2, h3, h4⟩ => by
  refine ⟨a, m, _, h1, h2, h3, fun x m1 v H1 l1 g1 r1 q1 => ?_⟩
  obtain ⟨d, kvs, rfl, em, q1⟩ := lkAt_at q1
  obtain ⟨od, ws, f1, f2⟩ := g1 d _ em
  have hl : kvs.length = ws.length := Paired.length f2
  cases r1
  refine ⟨d, od, rfl, .inl ⟨ws, f1, h4 _ _ m1 _ H1 l1 g1 ⟨fun i H' m' l g _ i1 => ?_, fun i H' m' v H2 x l g _ e2 y => ?_, fun i H' m' l g _ i1 => ?_⟩ q1⟩⟩
  · exact ⟨l.lkd _ _ _ f1, by rw [← hl]; simpa using i1⟩
  · obtain ⟨rfl, k, u, e3, rfl⟩ := y
    obtain ⟨x', e4, s⟩ := simK_get f2 e3
    rw [List.getElem?_map, e4] at e2
    cases e2
    exact ⟨.refl, g, simA_key k⟩
  · exact ⟨l.lkd _ _ _ f1, by rw [← hl]; simpa using i1⟩
theorem ai_values {apos cpos : Pos} (h : AE X e te) (hbase : attributeBase e "values" X.env (eval e X.env) = eval e X.env := by rfl) (hline : (apos.endLine == cpos.line) = true := by rfl) : AI X tg (.Call (.Attribute e "values" apos) [] [] cpos) (wVals te) :=
  piI (pi_values h hbase hline) fun σ H R ⟨a, m, q, h1, h2, h3, h4⟩ => by
    refine ⟨a, m, _, h1, h2, h3, fun x m1 v H1 l1 g1 r1 q1 => ?_⟩
    obtain ⟨d, kvs, rfl, em, q1⟩ := lkAt_at q1
    obtain ⟨od, ws, f1, f2⟩ := g1 d _ em
    have hl : kvs.length = ws.length := Paired.length f2
    cases r1
    refine ⟨d, od, ws, rfl, f1, h4 _ _ m1 _ H1 l1 g1 ⟨fun i H' m' l g _ i1 => ?_, fun i H' m' v H2 x l g _ e2 y => ?_, fun i H' m' l g _ i1 => ?_⟩ q1⟩
    · exact ⟨l.lkd _ _ _ f1, by rw [← hl]; simpa using i1⟩
    · obtain ⟨rfl, k, e3⟩ := y
      obtain ⟨x', e4, s⟩ := simK_get f2 e3
      rw [List.getElem?_map, e4] at e2
      cases e2
      exact ⟨.refl, g, s.mono l⟩
    · exact ⟨l.lkd _ _ _ f1, by rw [← hl]; simpa using i1⟩
theorem newT_sim {K : PySem.W.Frag} {H : Hp} {m : AHp} {p : Addr} {xs : List AV} {vs : List V} (g : SimH K H m) (hp : H p = none) (r : SimVs K H xs vs) : Le K H (upd H p (.tup vs)) ∧ SimH K (upd H p (.tup vs)) m ∧ SimV K (upd H p (.tup vs)) (.tup xs) (.ref p) :=
  ⟨.new hp, g.more hp, .tup sq_new (r.mono (.new hp))⟩
theorem ai_items {apos cpos tpos : Pos} {elts : List Expr} {kk : Nat} (h : AE X e te) (hbase : attributeBase e "items" X.env (eval e X.env) = eval e X.env := by rfl) (hline : (apos.endLine == cpos.line) = true := by rfl) :
    AI X (.Tuple elts kk tpos) (.Call (.Attribute e "items" apos) [] [] cpos) (wItems te) :=
  piI (pi_items h hbase hline) fun σ H R ⟨a, m, q, h1, h2, h3, h4⟩ => by
    refine ⟨a, m, _, h1, h2, h3, fun x m1 v H1 l1 g1 r1 q1 => ?_⟩
    obtain ⟨d, kvs, rfl, em, q1⟩ := lkAt_at q1
    obtain ⟨od, ws, f1, f2⟩ := g1 d _ em
    have hl : kvs.length = ws.length := Paired.length f2
    cases r1
    refine ⟨d, od, ws, rfl, f1, h4 _ _ m1 _ H1 l1 g1 ⟨fun i H' m' l g _ i1 => ?_, fun i H' m' v H2 x l g _ e2 y => ?_, fun i H' m' l g _ i1 => ?_⟩ q1⟩
    · exact ⟨l.lkd _ _ _ f1, by rw [← hl]; simpa using i1⟩
    · obtain ⟨T, k, u, e3, rfl, hT, rfl⟩ := y
      obtain ⟨x', e4, s⟩ := simK_get f2 e3
      rw [List.getElem?_map, e4] at e2
      cases e2
      exact newT_sim g hT (.cons (simA_key k) (.cons (s.mono l) .nil))
    · exact ⟨l.lkd _ _ _ f1, by rw [← hl]; simpa using i1⟩

def enumA : Nat → List AV → List AV
  | _, [] => []
  | k, x :: r => .tup [.int (k : Nat), x] :: enumA (k + 1) r
theorem enumA_len : ∀ (k : Nat) (xs : List AV), (enumA k xs).length = xs.length
  | _, [] => rfl
  | k, x :: r => congrArg (· + 1) (enumA_len (k + 1) r)
theorem enumA_get : ∀ (k i : Nat) (xs : List AV), (enumA k xs)[i]? = (xs[i]?).map fun x => .tup [.int ((k + i : Nat)), x]
  | _, _, [] => by simp [enumA]
  | k, 0, x :: r => rfl
  | k, i + 1, x :: r => by
    rw [enumA, List.getElem?_cons_succ, List.getElem?_cons_succ, enumA_get (k + 1) i r, show k + 1 + i = k + (i + 1) by omega]
def wEnum (te : ATE) : ATI := fun a m q => te a m fun x m1 => match x with
  | .ref b => match m1 b with
    | some (.lst xs) => q (enumA 0 xs) (fun m => m b = some (.lst xs)) m1
    | _ => False
  | _ => False
theorem ai_enum {p tpos : Pos} {elts : List Expr} {kk : Nat} (hg : Gl X "enumerate") (hm : X.mg "enumerate" = none) (h : AE X e te) (hs : starEach [e] X.env = [(false, eval e X.env)] := by rfl) :
    AI X (.Tuple elts kk tpos) (.Call (.Name "enumerate" p) [e] [] pos) (wEnum te) := piI (pi_enum hg hm (pa_cons h pa_nil hs) hs) fun σ H R ⟨a, m, q, h1, h2, h3, h4⟩ => by
  refine ⟨a, m, _, h1, h2, h3, fun x m1 v H1 l1 g1 r1 q1 => ?_⟩
  cases x with
  | ref b =>
    cases r1
    cases eb : m1 b with
    | none => simp only [eb] at q1
    | some ob =>
      cases ob with
      | lst xs =>
        simp only [eb] at q1
        obtain ⟨ws, f1, f2⟩ := g1 b _ eb
        refine ⟨b, ws, rfl, SqL.of f1, h4 _ _ m1 _ H1 l1 g1 ⟨fun i H' m' l g e i1 => ?_, fun i H' m' v H2 x l g e e2 y => ?_, fun i H' m' l g e i1 => ?_⟩ q1⟩
        · obtain ⟨ws, f1, f2⟩ := g b _ e
          rw [enumA_len] at i1
          have : i < ws.length := by rw [← f2.length]; exact i1
          exact ⟨ws, ws[i], SqL.of f1, List.getElem?_eq_getElem this⟩
        · obtain ⟨ws, f1, f2⟩ := g b _ e
          obtain ⟨T, u, rfl, hT, rfl, y⟩ := y
          rw [enumA_get] at e2
          cases e3 : xs[i]? with
          | none => rw [e3] at e2; cases e2
          | some x' =>
            rw [e3, Nat.zero_add] at e2
            cases e2
            obtain ⟨v', e4, r4⟩ := f2.get e3
            have := y ws (SqL.of f1)
            rw [e4] at this; cases this
            exact newT_sim g hT (.cons (.int _) (.cons r4 .nil))
        · obtain ⟨ws, f1, f2⟩ := g b _ e
          rw [enumA_len] at i1
          exact ⟨ws, SqL.of f1, by rw [← f2.length]; exact i1⟩
      | _ => simp only [eb] at q1
  | _ => exact q1.elim
end
end Ab

namespace Ab
open PySem PySem.Spec PyProof.Rows L2
section
variable {prog : Program} {w : World} {A : Around} {E : Value → Shared → Prop} {s : Shared}
theorem nextOf_key {C : Type} [DecidableEq C] {knd : KeyKind prog w C} {it d : Addr} {i ep : Nat} {kvs : List (C × Value)} {k : C} {v : Value} {Q : Value → Shared → Prop} (hit : s.heap.IsKeyIter it d i kvs.length ep) (hm : s.heap.DictAt knd d kvs ep) (hx : kvs[i]? = some (k, v))
    (hQ : ∀ key h', knd.is k key = true → h'.IsKeyIter it d (i + 1) kvs.length ep → Heap.SameBut it s.heap h' → Q key { s with heap := h' }) : wpAny (model prog w) A (Builtin.SmallTypes.nextOf (.ref it)) Q E s := by
  obtain ⟨o, ho, hc, hd⟩ := id hit
  obtain ⟨od, es, hod, hcd, hdd, hk, hp, hn⟩ := id hm
  have own : Builtin.Dict_items.ownsTuple "dict_keyiterator" = false := by decide
  have hsz : es.size = kvs.length := by rw [← hp.length]; simp
  have hlt : i < es.size := by
    rw [hsz]
    exact (List.getElem?_eq_some_iff.mp hx).1
  have hkey : knd.is k es[i].key = true := (hp.get? (e := es[i]) (by simp [hlt]) hx).1
  have hit' : (s.heap.update it (Obj.mapFields (·.setIfInBounds 1 (rawInt ((i : Int) + 1))))).IsKeyIter it d (i + 1) kvs.length ep := by
    exact ⟨_, Heap.get?_update_self _ ho (Obj.isFreed_of_fields (Obj.data_mapFields hd _)), (Obj.cls_mapFields ..).trans hc, by rw [Obj.data_mapFields hd]; simp [rawInt]⟩
  unfold Builtin.SmallTypes.nextOf
  refine wpAny_bind (wpAny_callSpecial?_slot (name := Str.ofString "__next__") hit.typeIs F.slot_dict_keyiterator_next (wpAny_call_entry F.slot_dict_keyiterator_next hit.typeIs F.entry_dict_keyiterator_next ?_ (F.args_dict_keyiterator_next_1 _)))
  refine wpAny_bind (wpAny_pure ?_); refine wpAny_bind ?_; refine wpAny_bind ?_
  first
    | refine wpAny_bind (wpAny_typeNameOfWhole_keyiter hit.typeIs (wpAny_pure ?_)); refine wpAny_bind (wpAny_fieldsOf ho hd ?_)
    | refine wpAny_bind (wpAny_typeNameOf_keyiter hit.typeIs (wpAny_pure ?_)); refine wpAny_bind (wpAny_fieldsOf ho hd ?_)
  simp only [own, Bool.false_eq_true, if_false]; show wpAny _ _ (if (Value.ref d == Value.none) = true then _ else _) _ _ s
  rw [if_neg (show ¬ ((Value.ref d == Value.none) = true) from Bool.false_ne_true)]; refine wpAny_bind (wpAny_pure (wpAny_bind (wpAny_dictEntries hod hdd ?_)))
  rw [if_neg (by rw [hsz]; simp)]; refine wpAny_bind (wpAny_pure (wpAny_bind (wpAny_dictEpoch hod hdd ?_)))
  rw [if_neg (by simp)]; refine wpAny_pure ?_
  simp only [show ¬ ((i : Int) < 0) from by omega, if_false, Int.toNat_natCast, Array.getElem?_eq_getElem hlt]; refine wpAny_bind ?_
  first
    | refine wpAny_bind (wpAny_typeNameOfWhole_keyiter hit.typeIs (wpAny_pure ?_)); refine wpAny_bind (wpAny_isOneOf_keyiter hit.typeIs ?_)
    | refine wpAny_bind (wpAny_typeNameOf_keyiter hit.typeIs (wpAny_pure ?_)); refine wpAny_bind (wpAny_isOneOf_keyiter hit.typeIs ?_)
  show wpAny _ _ (setField (.ref it) 1 (rawInt ((i : Int) + 1)) >>= _) _ _ s; refine wpAny_bind (wpAny_setField ho hd (by simp) (wpAny_bind (wpAny_holding ?_)))
  refine wpAny_bind (wpAny_isOneOf_keyiter (s := { s with heap := s.heap.update it (Obj.mapFields (·.setIfInBounds 1 (rawInt ((i : Int) + 1)))) }) hit'.typeIs ?_); show wpAny _ _ (pure es[i].key) _ _ _
  exact wpAny_pure (wpAny_pure ⟨_, rfl, wpAny_pure (hQ _ _ hkey hit' (Heap.SameBut.update ..))⟩)
theorem nextOf_key_end {C : Type} [DecidableEq C] {knd : KeyKind prog w C} {it d : Addr} {i ep : Nat} {kvs : List (C × Value)} {Q : Value → Shared → Prop} (hh : A.handled = none) (hit : s.heap.IsKeyIter it d i kvs.length ep) (hm : s.heap.DictAt knd d kvs ep) (hx : kvs[i]? = none)
    (hE : ∀ h' e, Heap.ExtBut it s.heap h' → (∃ o, h'.get? e = some o ∧ o.cls = .type "StopIteration") → E (.ref e) { s with heap := h' }) : wpAny (model prog w) A (Builtin.SmallTypes.nextOf (.ref it)) Q E s := by
  obtain ⟨o, ho, hc, hd⟩ := id hit
  obtain ⟨od, es, hod, hcd, hdd, hk, hp, hn⟩ := id hm
  have own : Builtin.Dict_items.ownsTuple "dict_keyiterator" = false := by decide
  have hsz : es.size = kvs.length := by rw [← hp.length]; simp
  have hge : es.size ≤ i := by rw [hsz]; simpa using hx
  unfold Builtin.SmallTypes.nextOf
  refine wpAny_bind (wpAny_callSpecial?_slot (name := Str.ofString "__next__") hit.typeIs F.slot_dict_keyiterator_next (wpAny_call_entry F.slot_dict_keyiterator_next hit.typeIs F.entry_dict_keyiterator_next ?_ (F.args_dict_keyiterator_next_1 _)))
  refine wpAny_bind (wpAny_pure ?_); refine wpAny_bind ?_; refine wpAny_bind ?_
  first
    | refine wpAny_bind (wpAny_typeNameOfWhole_keyiter hit.typeIs (wpAny_pure ?_)); refine wpAny_bind (wpAny_fieldsOf ho hd ?_)
    | refine wpAny_bind (wpAny_typeNameOf_keyiter hit.typeIs (wpAny_pure ?_)); refine wpAny_bind (wpAny_fieldsOf ho hd ?_)
  simp only [own, Bool.false_eq_true, if_false]; show wpAny _ _ (if (Value.ref d == Value.none) = true then _ else _) _ _ s
  rw [if_neg (show ¬ ((Value.ref d == Value.none) = true) from Bool.false_ne_true)]; refine wpAny_bind (wpAny_pure (wpAny_bind (wpAny_dictEntries hod hdd ?_)))
  rw [if_neg (by rw [hsz]; simp)]; refine wpAny_bind (wpAny_pure (wpAny_bind (wpAny_dictEpoch hod hdd ?_)))
  rw [if_neg (by simp)]; refine wpAny_pure ?_
  simp only [show ¬ ((i : Int) < 0) from by omega, if_false, Int.toNat_natCast, Array.getElem?_eq_none hge]; refine wpAny_bind ?_
  first
    | refine wpAny_bind (wpAny_typeNameOfWhole_keyiter hit.typeIs (wpAny_pure ?_)); show wpAny _ _ (setField (.ref it) 0 .none >>= _) _ _ s
    | refine wpAny_bind (wpAny_typeNameOf_keyiter hit.typeIs (wpAny_pure ?_)); show wpAny _ _ (setField (.ref it) 0 .none >>= _) _ _ s
  refine wpAny_bind (wpAny_setField ho hd (by simp) ?_); show wpAny _ _ (newExc (.type "StopIteration") [] >>= _) _ _ _
  refine wpAny_bind ?_; simp only [newExc, newTuple]; refine wpAny_bind (wpAny_newObj_type ?_ (by size_fits))
  refine wpAny_bind (m := firstArgMember _ _) (wpAny_of_eq (a := Value.none) (by first | rfl | (simp only [firstArgMember]; rfl)) (wpAny_newObj_type ?_ (by size_fits)))
  simp only [raiseNew]; refine wpAny_bind (wpAny_handled ?_)
  first
    | rw [show A.in1.handled = none from hh]
    | rw [hh]
  refine wpAny_bind (wpAny_pure (wpAny_throw ?_)); exact hE _ _ (((Heap.SameBut.update ..).extBut.push _).push _) ⟨_, Heap.get?_push_size _ rfl, rfl⟩
theorem draws_keys {C : Type} [DecidableEq C] {knd : KeyKind prog w C} (hh : A.handled = none) (it d : Addr) (hne : d ≠ it) (kvs : List (C × Value)) (ep : Nat) :
    Draws prog w A it [it, d] kvs.length (fun i v => ∃ k x, kvs[i]? = some (k, x) ∧ knd.is k v = true) (fun i h => h.IsKeyIter it d i kvs.length ep ∧ h.DictAt knd d kvs ep) where
  live := fun _ _ st => let ⟨o, ho, _⟩ := st.1; ⟨o, ho⟩
  frame := fun _ _ _ st hk => ⟨st.1.at fun o e => hk it (by simp) o e, let ⟨od, es, hod, r⟩ := st.2; ⟨od, es, hk d (by simp) _ hod, r⟩⟩
  item := fun i s Q E hi st hQ => by
    refine nextOf_key st.1 st.2 (k := kvs[i].1) (v := kvs[i].2) (by simp [hi]) fun key h' hk hit' hs' => ?_
    exact hQ _ h' s.toks ⟨_, _, List.getElem?_eq_getElem hi, hk⟩ ⟨hit', let ⟨od, es, hod, r⟩ := st.2; ⟨od, es, (hs'.2 d hne).trans hod, r⟩⟩ hs'
  done := fun s Q E st hE => nextOf_key_end hh st.1 st.2 (by simp) hE
theorem meets_enum1 {v : Value} {o : Obj} {H : Heap → Prop} (B : Begins v o H) : Meets (Builtin.«enumerate.__new__» ⟨[.type "enumerate", v], []⟩) (fun _ R s => H s.heap ∧ R (.ok (.ret (.ref (s.heap.push o).objs.size))) { s with heap := (s.heap.push o).push { cls := .type "enumerate", data := .fields #[.none, .bool false, .ref s.heap.objs.size, rawInt 0, .none, .none] } }) :=
  .of_wp fun prog w A R s h => by
    obtain ⟨hp, g, d, tk, os⟩ := s
    obtain ⟨h1, h⟩ := h
    have hsub := sub_enumerate
    have q1 : ∀ {A' : Around} {E : Value → Shared → Prop} {Q : Value → Shared → Prop}, Q (.ref hp.objs.size) ⟨hp.push o, g, d, tk, os⟩ → wpAny (model prog w) A' (pyIter v) Q E ⟨hp, g, d, tk, os⟩ := fun q => B.iter prog w _ _ ⟨hp, g, d, tk, os⟩ _ h1 q
    wp_walk using q1
    refine wpAny_stack_any fun st => wpAny_pure ?_
    split
    · rename_i c _ _ _ _ _
      cases (c == Value.type "enumerate") <;> (wp_walk using q1; exact ⟨_, rfl, h⟩)
    · wp_walk using q1
      exact ⟨_, rfl, h⟩
end
end Ab

namespace Ab
open PySem PySem.Spec PyProof.Rows L2
section
variable {prog : Program} {w : World} {A : Around} {E : Value → Shared → Prop} {s : Shared}
theorem call_enum1 {v : Value} {o : Obj} {H : Heap → Prop} {Q : Value → Shared → Prop} (B : Begins v o H) (h1 : H s.heap)
    (h : ∀ h', IsEnum h' (s.heap.objs.size + 1) s.heap.objs.size 0 .none → h'.get? s.heap.objs.size = some o → h'.objs.size = s.heap.objs.size + 2 → (∀ b o, s.heap.get? b = some o → h'.get? b = some o) → Q (.ref (s.heap.objs.size + 1)) { s with heap := h' }) : wpAny (model prog w) A (call (.type "enumerate") [v]) Q E s := by
  refine callType_new F.called_enumerate (by decide) (F.typeCall_enumerate_1 _) (F.newCall_enumerate_1 _) (fun obj => F.args_object_init_2 obj _) F.entry_enumerate_new (meets_enum1 B) ⟨h1, ?_⟩
  have hz : (s.heap.push o).objs.size = s.heap.objs.size + 1 := Heap.size_push ..
  have he := Heap.get?_push_size (s.heap.push o) (o := { cls := .type "enumerate", data := .fields #[.none, .bool false, .ref s.heap.objs.size, rawInt 0, .none, .none] }) rfl
  show _ ∧ _
  rw [hz] at he ⊢
  exact ⟨⟨_, he, rfl⟩, h _ he (Heap.get?_push_of_some _ (Heap.get?_push_size _ B.free)) (by rw [Heap.size_push, hz]) fun b o x => Heap.get?_push_of_some _ (Heap.get?_push_of_some _ x)⟩
theorem begins_dict {d : Addr} {od : Obj} {es : Array DictEntry} {ep : Nat} (hd : (d == sysModules) = false) (hc : od.ExactDict) (hdat : od.data = .dict es ep) :
    Begins (.ref d) { cls := .type "dict_keyiterator", data := .fields #[.ref d, .int 0 0, .int es.size 0, .int ep 0] } (fun h => h.get? d = some od) where
  iter := fun prog w A E s Q ho h => iter_keys hd ho hc hdat h
  keeps := fun h h' x hk => hk _ _ x
  free := rfl
end
def Itke (d : Addr) (o : Obj) (kvs : List (Key × V)) : It :=
  ⟨fun i H => H d = some (.frz o (.dK kvs)) ∧ i < kvs.length, fun i H x H' => ∃ T k v, kvs[i]? = some (k, v) ∧ x = .ref T ∧ H T = none ∧ H' = L2.upd H T (.tup [.int (i : Nat), kV k]), fun i H => H d = some (.frz o (.dK kvs)) ∧ kvs.length ≤ i⟩
theorem turn_ekeys {P : Program} {w : World} {K : PySem.W.Frag} {d : Addr} {o : Obj} {es : Array DictEntry} {ep : Nat} {kvs : List (Key × V)} {elts : List Expr} {kk : Nat} {tpos : Pos} (e it : Addr) (hod : o.data = .dict es ep) :
    Turn P w K (.Tuple elts kk tpos) (Itke d o kvs) [e, it] e (fun i h => (∃ old, IsEnum h e it ((i : Nat) : Int) old) ∧ h.IsKeyIter it d i kvs.length ep ∧ e ≠ it ∧ e ≠ d ∧ d ≠ it) where
  mem := by simp
  obj := fun i h st b hb => by
    obtain ⟨⟨old, he⟩, ⟨oi, ho, hc, hd⟩, _⟩ := st
    rcases List.mem_cons.mp hb with rfl | hb
    · exact ⟨_, he, fun v q => nomatch q⟩
    · rw [List.mem_singleton.mp hb]
      exact ⟨oi, ho, fun v q => by rw [hd] at q; cases q⟩
  keep := fun i h h' st k => let ⟨⟨old, he⟩, hi, r⟩ := st; ⟨⟨old, k e (by simp) _ he⟩, hi.at fun o q => k it (by simp) o q, r⟩
  item := by
    intro X hP hw hK hc i pins s σ H E I hf st hg
    subst hP hw hK
    obtain ⟨⟨old, he⟩, hit, n1, n2, n3⟩ := st
    obtain ⟨hd, hi⟩ := hg
    obtain ⟨hs, hgd, hx, es', ep', vs, hdt, hsz, kv, hm⟩ := I.frzK hd
    obtain ⟨rfl, rfl⟩ := dict_ep hod hdt
    have hl : kvs.length = vs.length := Paired.length kv
    have hel : e < s.heap.objs.size := Heap.lt_size he
    have hil : it < s.heap.objs.size := by obtain ⟨_, q, _⟩ := hit; exact Heap.lt_size q
    rw [hl] at hit
    have D := draws_keys (prog := X.prog) (w := X.w) (A := X.A.in1) (knd := mixKind X.prog X.w) (show X.A.in1.handled = none from I.ok.hd hc) it d n3 vs ep'
    refine wpAny_pyNext_enum_itemD D he ⟨hit, hm⟩ (by omega) n1 (by simp [n1, n2]) fun x h' tk hP ho st' hT hz hk => ?_
    obtain ⟨k, u, hku, hkey⟩ := hP
    obtain ⟨v, hv⟩ : ∃ v, kvs[i]? = some (k, v) := by
      obtain ⟨⟨k2, v⟩, hkv⟩ : ∃ p, kvs[i]? = some p := ⟨kvs[i], List.getElem?_eq_getElem hi⟩
      obtain ⟨u2, hu2, _⟩ := kv_get kv hkv
      rw [hku] at hu2
      cases hu2
      exact ⟨v, hkv⟩
    refine ⟨_, rfl, wpAny_letOwnedTupleGo_enum (s := { s with heap := h', toks := tk + 1 }) ho fun h'' he' sb => ?_⟩
    have hT2 : h''.get? s.heap.objs.size = some { cls := .type "tuple", data := .seq #[.int i tk, x] } := (sb.2 _ (Nat.ne_of_gt hel)).trans hT
    have new : ObjOk X.prog X.w (L2.upd H s.heap.objs.size (.tup [.int (i : Nat), kV k])) h'' s.heap.objs.size (.tup [.int (i : Nat), kV k]) := by
      exact ⟨by show 2 ≤ sizeLine; decide, [.int i tk, x], .cons ⟨_, rfl⟩ (.cons (relV_key hkey) .nil), ⟨_, hT2, rfl, _, rfl⟩⟩
    have I1 : Inv X pins σ (L2.upd H s.heap.objs.size (.tup [.int (i : Nat), kV k])) { s with heap := h'', toks := tk + 1 } := by
      exact I.turnedNew (ch := [e, it]) (fun b ob hb q => (sb.2 b (fun z => hb (by simp [z]))).trans (hk b ob (fun z => hb (by simp [z])) (fun z => hb (by simp [z])) q)) hf (Nat.le_refl _) new
    refine ⟨.ref s.heap.objs.size, _, I1, rfl, ⟨_, k, v, hv, rfl, I.hok.fresh (Nat.le_refl _), rfl⟩, ⟨⟨x, ?_⟩, ?_, n1, n2, n3⟩, fun b hb => ?_⟩
    · rw [show ((i + 1 : Nat) : Int) = (i : Int) + 1 by omega]
      exact he'
    · rw [hl]
      exact st'.1.at fun o q => (sb.2 it (Ne.symm n1)).trans q
    · have hb' : b < s.heap.objs.size := by
        rcases List.mem_cons.mp hb with rfl | hb
        · exact hel
        · rw [List.mem_singleton.mp hb]; exact hil
      rw [upd_ne (Nat.ne_of_lt hb')]
      exact (hf b hb).1
  done := by
    intro X hP hw hK hc i pins s σ H E I hf st hg
    subst hP hw hK
    obtain ⟨⟨old, he⟩, hit, n1, n2, n3⟩ := st
    obtain ⟨hd, hi⟩ := hg
    obtain ⟨hs, hgd, hx, es', ep', vs, hdt, hsz, kv, hm⟩ := I.frzK hd
    obtain ⟨rfl, rfl⟩ := dict_ep hod hdt
    have hl : kvs.length = vs.length := Paired.length kv
    obtain ⟨f0, f1, f2, f3, f4, f5⟩ := hf it (by simp)
    have hlt : vs[i]? = none := List.getElem?_eq_none (by omega)
    have hT : s.TypeIs (.ref e) "enumerate" := ⟨_, he, rfl⟩
    rw [hl] at hit
    unfold pyNext
    refine wpAny_bind (wpAny_attempt (wpAny_callSpecial?_slot (name := Str.ofString "__next__") hT F.slot_enumerate_next (wpAny_call_entry F.slot_enumerate_next hT F.entry_enumerate_next ?_ (F.args_enumerate_next_1 _))))
    show wpAny _ _ (field (.ref e) 2 >>= _) _ _ _
    refine wpAny_bind (wpAny_field he rfl (x := .ref it) rfl (wpAny_bind (nextOf_key_end (I.ok.hd hc) hit hm hlt fun h' x hx' hs' => ?_)))
    obtain ⟨ox, ho, hcx⟩ := hs'
    refine wpAny_bind (wpAny_isInstance (T := "StopIteration") (b := true) ⟨ox, ho, hcx⟩ isSubtype_stop (wpAny_pure ⟨rfl, ?_⟩))
    exact I.turned (t' := s.toks) (fun b o hb q => hx' b o hb q) f0 f1 f3 f4 f5
  self := fun A i s Q E st h => let ⟨⟨_, he⟩, _⟩ := st; wpAny_pyIter_enum he h
def iEnumD (td : TE) : TI := fun σ H R => td σ H fun x H1 => ∃ d o kvs, [x] = [V.ref d] ∧ H1 d = some (.frz o (.dK kvs)) ∧ R (Itke d o kvs) H1
theorem pi_enumD {X : Cx} {e : Expr} {td : TE} {p pos tpos : Pos} {elts : List Expr} {kk : Nat} (hg : Gl X "enumerate") (hm : X.mg "enumerate" = none) (he : PE X e td) (hs : starEach [e] X.env = [(false, eval e X.env)] := by rfl) :
    PI X (.Tuple elts kk tpos) (.Call (.Name "enumerate" p) [e] [] pos) (iEnumD td) := by
  refine ⟨fun pins s σ H R I h => ?_⟩
  refine Call_ (ld_blt I hg hm boot_enumerate (PyProof.Rows.callWith_type1 (thn ((pa_cons he pa_nil hs).run pos pins s σ H (fun vs H1 => ∃ d o kvs, vs = [V.ref d] ∧ H1 d = some (.frz o (.dK kvs)) ∧ R (Itke d o kvs) H1) I h) fun us s1 ⟨vs, H1, I1, r1, d, o, kvs, ex, hd, q⟩ => ?_) hs rfl))
  subst ex
  cases r1 with
  | cons r rr =>
    cases rr
    cases r
    obtain ⟨n1, hgd, hx, es, ep, vs, hdt, hsz, kv, hm⟩ := I1.frzK hd
    have hdl : d < s1.heap.objs.size := Heap.lt_size hgd
    refine call_enum1 (begins_dict n1 hx hdt) hgd fun h' he hit hsz2 hk => wpAny_pyIter_enum he ?_
    have I2 : Inv X pins σ H1 { s1 with heap := h' } := I1.kept (t' := s1.toks) hk
    refine ⟨s1.heap.objs.size + 1, [s1.heap.objs.size + 1, s1.heap.objs.size], _, _, H1, rfl, I2, turn_ekeys (s1.heap.objs.size + 1) s1.heap.objs.size hdt, ⟨⟨.none, he⟩, ⟨_, hit, rfl, by rw [hsz]; rfl⟩, Nat.succ_ne_self _, Nat.ne_of_gt (Nat.lt_succ_of_lt hdl), Nat.ne_of_lt hdl⟩, fun b hb => ?_, q⟩
    have hle : s1.heap.objs.size ≤ b := by
      rcases List.mem_cons.mp hb with rfl | hb
      · exact Nat.le_add_right _ _
      · rw [List.mem_singleton.mp hb]; exact Nat.le_refl _
    exact I1.fpOk hle (I1.hok.fresh hle)
def wEnumD (te : ATE) : ATI := fun a m q => te a m fun x m1 => lkAt x m1 fun kvs => q (enumA 0 (kvs.map fun kv => kA kv.1)) (fun _ => True) m1
theorem ai_enumD {X : Cx} {e : Expr} {te : ATE} {p pos tpos : Pos} {elts : List Expr} {kk : Nat} (hg : Gl X "enumerate") (hm : X.mg "enumerate" = none) (h : AE X e te) (hs : starEach [e] X.env = [(false, eval e X.env)] := by rfl) :
    AI X (.Tuple elts kk tpos) (.Call (.Name "enumerate" p) [e] [] pos) (wEnumD te) := piI (pi_enumD hg hm h hs) fun σ H R ⟨a, m, q, h1, h2, h3, h4⟩ => by
  refine ⟨a, m, _, h1, h2, h3, fun x m1 v H1 l1 g1 r1 q1 => ?_⟩
  obtain ⟨d, kvs, rfl, em, q1⟩ := lkAt_at q1
  obtain ⟨od, ws, f1, f2⟩ := g1 d _ em
  have hl : kvs.length = ws.length := Paired.length f2
  cases r1
  refine ⟨d, od, ws, rfl, f1, h4 _ _ m1 _ H1 l1 g1 ⟨fun i H' m' l g _ i1 => ?_, fun i H' m' v H2 x l g _ e2 y => ?_, fun i H' m' l g _ i1 => ?_⟩ q1⟩
  · rw [enumA_len, List.length_map] at i1
    exact ⟨l.lkd _ _ _ f1, by rw [← hl]; exact i1⟩
  · obtain ⟨T, k, u, e3, rfl, hT, rfl⟩ := y
    obtain ⟨x', e4, s⟩ := simK_get f2 e3
    rw [enumA_get, List.getElem?_map, e4, Nat.zero_add] at e2
    cases e2
    exact newT_sim g hT (.cons (.int _) (.cons (simA_key k) .nil))
  · rw [enumA_len, List.length_map] at i1
    exact ⟨l.lkd _ _ _ f1, by rw [← hl]; exact i1⟩
end Ab

namespace Ab
open PySem PySem.Spec PyProof.Rows L2
section
variable {kx vx t0 i0 t1 i1 : Expr} {f0 f1 : List Expr} {scope : Scope} {pos : Pos}
abbrev dc2X (kx vx t0 i0 t1 i1 : Expr) (f0 f1 : List Expr) (scope : Scope) (pos : Pos) : Expr := .DictComp kx vx [⟨t0, i0, f0, 0⟩, ⟨t1, i1, f1, 0⟩] scope pos
def testAll (cs : List Expr) (env : Env) : Sem Bool := forIn cs true fun c r => if r = true then do let ok ← isTrue c env (eval c env); pure (ForInStep.yield ok) else pure (ForInStep.yield r)
theorem dc2_turn0 (it acc : Value) (env : Env) : compTurn (dc2X kx vx t0 i0 t1 i1 f0 f1 scope pos) 0 it acc env = (do
    standAt i0.pos
    match ← pyNext it with
    | none => pure (.done .next)
    | some v =>
      letOwnedTupleGo t0 it v
      assign t0 env v
      let ok ← testAll f0 env
      if ok then
        let x ← eval i1 env
        standAt i1.pos
        let x ← foldedSetIterable i1 env x
        let _ ← runOwn (.compStart (dc2X kx vx t0 i0 t1 i1 f0 f1 scope pos) 1 (← holding [x] (pyIter x)) acc env) env
      again (.compLoop (dc2X kx vx t0 i0 t1 i1 f0 f1 scope pos) 0 it acc env)) := by rfl
theorem dc2_turn1 (it : Value) (D : Addr) (env : Env) : compTurn (dc2X kx vx t0 i0 t1 i1 f0 f1 scope pos) 1 it (.ref D) env = (do
    standAt i1.pos
    match ← pyNext it with
    | none => pure (.done .next)
    | some v =>
      letOwnedTupleGo t1 it v
      assign t1 env v
      let ok ← testAll f1 env
      if ok then
        (do
          let a ← eval kx env
          let b ← holding [a] (eval vx env)
          standAt { kx.pos with endLine := vx.pos.endLine, endCol := vx.pos.endCol }
          holding [a, b] (dictSet D a b))
      again (.compLoop (dc2X kx vx t0 i0 t1 i1 f0 f1 scope pos) 1 it (.ref D) env)) := by rfl
variable {prog : Program} {w : World} {A : Around} {R : Result → Shared → Prop} {s : Shared} {it acc : Value} {env : Env}
theorem dc2_loop0 (hs : ∀ x, foldedSetIterable i1 env x = pure x) (I : Nat → Shared → Prop)
    (turn : ∀ n s, I n s → wpAny (model prog w) A (pyNext it) (fun r s1 => match r with
      | none => R (.ok .next) s1
      | some v => wpAny (model prog w) A (letOwnedTupleGo t0 it v) (fun _ s2 => wpAny (model prog w) A (assign t0 env v) (fun _ s3 => wpAny (model prog w) A (testAll f0 env) (fun ok s4 =>
          if ok = true then wpAny (model prog w) A (eval i1 env) (fun x s5 => wpAny (model prog w) A (pyIter x) (fun j s6 =>
            codeAny (model prog w) A (.compStart (dc2X kx vx t0 i0 t1 i1 f0 f1 scope pos) 1 j acc env) (fun r s' => match r with
              | .ok _ => ∃ m, m < n ∧ I m s'
              | .error _ => False) s6) (notedBy (model prog w) A env fun e s' => R (.error e) s') s5) (notedBy (model prog w) A env fun e s' => R (.error e) s') s4
          else ∃ m, m < n ∧ I m s4) (notedBy (model prog w) A env fun e s' => R (.error e) s') s3) (notedBy (model prog w) A env fun e s' => R (.error e) s') s2) (notedBy (model prog w) A env fun e s' => R (.error e) s') s1) (notedBy (model prog w) A env fun e s' => R (.error e) s') s)
    (n : Nat) (h : I n s) : codeAny (model prog w) A (.compLoop (dc2X kx vx t0 i0 t1 i1 f0 f1 scope pos) 0 it acc env) R s := by
  refine codeAny_loop rfl I (fun n s hI => ?_) n h
  show wpAny _ A ((compTurn (dc2X kx vx t0 i0 t1 i1 f0 f1 scope pos) 0 it acc env).onRaise (fun x => do noteFrame x env; theTreesLotGoes x)) _ _ s
  refine wpAny_noted ?_
  rw [dc2_turn0]
  refine wpAny_bind (wpAny_standAt (wpAny_bind (wpAny_mono (turn n s hI) (fun r s1 h1 => ?_) fun _ _ z => z)))
  cases r with
  | none => exact wpAny_pure h1
  | some v =>
    refine wpAny_bind (wpAny_mono h1 (fun _ s2 h2 => wpAny_bind (wpAny_mono h2 (fun _ s3 h3 => wpAny_bind (wpAny_mono h3 (fun ok s4 h4 => ?_) fun _ _ z => z)) fun _ _ z => z)) fun _ _ z => z)
    cases ok with
    | false => exact wpAny_pure ⟨rfl, h4⟩
    | true =>
      refine wpAny_bind (wpAny_mono h4 (fun x s5 h5 => wpAny_bind (wpAny_standAt (wpAny_bind (wpAny_of_eq (hs x) (wpAny_bind (wpAny_holding (wpAny_mono h5 (fun j s6 h6 => ?_) fun _ _ z => z))))))) fun _ _ z => z)
      refine wpAny_bind (wpAny_runOwn ?_)
      rw [Around.mark_none]
      refine codeAny_mono h6 fun r s' hr => ?_
      cases r with
      | error e => exact hr.elim
      | ok f => first | exact wpAny_pure ⟨rfl, hr⟩ | exact wpAny_bind (wpAny_pure (wpAny_pure ⟨rfl, hr⟩))
theorem dc2_loop1 {D : Addr} (I : Nat → Shared → Prop)
    (turn : ∀ n s, I n s → wpAny (model prog w) A (pyNext it) (fun r s1 => match r with
      | none => R (.ok .next) s1
      | some v => wpAny (model prog w) A (letOwnedTupleGo t1 it v) (fun _ s2 => wpAny (model prog w) A (assign t1 env v) (fun _ s3 => wpAny (model prog w) A (testAll f1 env) (fun ok s4 =>
          if ok = true then wpAny (model prog w) A (eval kx env) (fun a s5 => wpAny (model prog w) A (eval vx env) (fun b s6 =>
            wpAny (model prog w) A (dictSet D a b) (fun _ s7 => ∃ m, m < n ∧ I m s7) (notedBy (model prog w) A env fun e s' => R (.error e) s') s6) (notedBy (model prog w) A env fun e s' => R (.error e) s') s5) (notedBy (model prog w) A env fun e s' => R (.error e) s') s4
          else ∃ m, m < n ∧ I m s4) (notedBy (model prog w) A env fun e s' => R (.error e) s') s3) (notedBy (model prog w) A env fun e s' => R (.error e) s') s2) (notedBy (model prog w) A env fun e s' => R (.error e) s') s1) (notedBy (model prog w) A env fun e s' => R (.error e) s') s)
    (n : Nat) (h : I n s) : codeAny (model prog w) A (.compLoop (dc2X kx vx t0 i0 t1 i1 f0 f1 scope pos) 1 it (.ref D) env) R s := by
  refine codeAny_loop rfl I (fun n s hI => ?_) n h
  show wpAny _ A ((compTurn (dc2X kx vx t0 i0 t1 i1 f0 f1 scope pos) 1 it (.ref D) env).onRaise (fun x => do noteFrame x env; theTreesLotGoes x)) _ _ s
  refine wpAny_noted ?_
  rw [dc2_turn1]
  refine wpAny_bind (wpAny_standAt (wpAny_bind (wpAny_mono (turn n s hI) (fun r s1 h1 => ?_) fun _ _ z => z)))
  cases r with
  | none => exact wpAny_pure h1
  | some v =>
    refine wpAny_bind (wpAny_mono h1 (fun _ s2 h2 => wpAny_bind (wpAny_mono h2 (fun _ s3 h3 => wpAny_bind (wpAny_mono h3 (fun ok s4 h4 => ?_) fun _ _ z => z)) fun _ _ z => z)) fun _ _ z => z)
    cases ok with
    | false => exact wpAny_pure ⟨rfl, h4⟩
    | true => exact wpAny_bind (wpAny_bind (wpAny_mono h4 (fun a s5 h5 => wpAny_bind (wpAny_holding (wpAny_mono h5 (fun b s6 h6 => wpAny_bind (wpAny_standAt (wpAny_holding (wpAny_mono h6 (fun _ s7 h7 => wpAny_pure ⟨rfl, h7⟩) fun _ _ z => z)))) fun _ _ z => z))) fun _ _ z => z))
theorem dc2_start1 (h0 : codeAny (model prog w) A (.compLoop (dc2X kx vx t0 i0 t1 i1 f0 f1 scope pos) 1 it acc env) R s)
    (h : wpAny (model prog w) A (pyIter it) (fun j s' => codeAny (model prog w) A (.compLoop (dc2X kx vx t0 i0 t1 i1 f0 f1 scope pos) 1 j acc env) R s') (notedBy (model prog w) A env fun x s' => R (.error x) s') s) :
    codeAny (model prog w) A (.compStart (dc2X kx vx t0 i0 t1 i1 f0 f1 scope pos) 1 it acc env) R s := by
  refine codeAny_of_tree ?_
  show wpAny _ _ ((compStart (dc2X kx vx t0 i0 t1 i1 f0 f1 scope pos) 1 it acc env).onRaise (fun x => do noteFrame x env; standAt theWindowsPlace)) _ _ s
  refine wpAny_notedAt ?_
  unfold compStart
  show wpAny _ _ (ask >>= _) _ _ s
  refine wpAny_bind (wpAny_askSetting (wpAny_ite ?_))
  split
  · first | exact wpAny_bind (wpAny_pure (wpAny_pure (And.intro rfl h0))) | exact wpAny_pure (And.intro rfl h0)
  · first
      | exact wpAny_bind (wpAny_rule (wpAny_bind (wpAny_standAt (wpAny_bind (wpAny_mono h (fun j s' z => wpAny_pure (And.intro rfl z)) fun _ _ x => x)))))
      | (refine wpAny_bind (wpAny_rule ?_); show wpAny _ _ (standAt i1.pos >>= _) _ _ s; exact wpAny_bind (wpAny_standAt (wpAny_bind (wpAny_mono h (fun j s' z => wpAny_pure (And.intro rfl z)) fun _ _ x => x))))
end
end Ab

namespace Ab
open PySem PySem.Spec PyProof.Rows L2
def tDc2 (wi : TI) (g : TG) (tt : TT) (wj : TI) (h : TG) (tu : TT) (tk tv : TE) (vs us : List Nat) : TE := fun σ H Q => wi σ H fun J H1 => ∀ D, H1 D = none → ∃ W : Nat → Nat → Hp → Prop, (∃ m, W 0 m (L2.upd H1 D (.dK []))) ∧ ∀ i m H, W i m H →
  (J.stop i H ∧ Q (.ref D) H) ∨ (J.go i H ∧ ∃ N : Hp → Prop, (∀ H', N H' → ∃ m', m' < m ∧ W (i + 1) m' H') ∧ ∀ x H', J.yld i H x H' → g x (L2.wipe σ vs) H' fun σ2 H2 => L2.wipe σ2 vs = L2.wipe σ vs ∧ tt σ2 H2 fun b H3 =>
    if b = true then wj σ2 H3 fun J2 H4 => ∃ U : Nat → Nat → Hp → Prop, (∃ m, U 0 m H4) ∧ ∀ j k H, U j k H →
      (J2.stop j H ∧ N H) ∨ (J2.go j H ∧ ∃ M : Hp → Prop, (∀ H', M H' → ∃ k', k' < k ∧ U (j + 1) k' H') ∧ ∀ x H', J2.yld j H x H' → h x (L2.wipe σ2 us) H' fun σ3 H5 => L2.wipe σ3 us = L2.wipe σ2 us ∧ tu σ3 H5 fun b H6 =>
        if b = true then tk σ3 H6 fun y H7 => tv σ3 H7 fun z H8 => ∃ kvs k, y = kV k ∧ H8 D = some (.dK kvs) ∧ kvs.length < sizeLine ∧ M (L2.upd H8 D (.dK (putK kvs k z))) else M H6)
    else N H3)
section
variable {X : Cx} {kx vx tg iter th jter : Expr} {fs gs : List Expr} {scope : Scope} {own : List (Str × Nat)} {us : List Nat} {pos : Pos} {wi wj : TI} {g h : TG} {tt tu : TT} {tk tv : TE}
structure Dc2 (X : Cx) (kx vx tg iter th jter : Expr) (fs gs : List Expr) (scope : Scope) (own : List (Str × Nat)) (us : List Nat) (wi wj : TI) (g h : TG) (tt tu : TT) (tk tv : TE) : Prop where
  calm : X.calm = true
  nd : X.N.Nodup
  i : PI X tg iter wi
  ok : BlkOk X.N X.env.scope scope own
  sub : ∀ i ∈ us, i ∈ own.map (·.2)
  g : ∀ (s : Shared) (H : Hp) (C : Addr) (cl : List (Str × Addr)) (fp : List Addr), PG (X.blk s H scope (compEnvC scope cl C X.env) fp) tg g
  t : ∀ (s : Shared) (H : Hp) (C : Addr) (cl : List (Str × Addr)) (fp : List Addr), PTs (X.blk s H scope (compEnvC scope cl C X.env) fp) fs tt
  k : ∀ (s : Shared) (H : Hp) (C : Addr) (cl : List (Str × Addr)) (fp : List Addr), PE (X.blk s H scope (compEnvC scope cl C X.env) fp) kx tk
  v : ∀ (s : Shared) (H : Hp) (C : Addr) (cl : List (Str × Addr)) (fp : List Addr), PE (X.blk s H scope (compEnvC scope cl C X.env) fp) vx tv
  fold : ∀ x, foldedSetIterable iter X.env x = pure x
  j : ∀ (s : Shared) (H : Hp) (C : Addr) (cl : List (Str × Addr)) (fp : List Addr), PI (X.blk s H scope (compEnvC scope cl C X.env) fp) th jter wj
  h : ∀ (s : Shared) (H : Hp) (C : Addr) (cl : List (Str × Addr)) (fp : List Addr), PG (X.blk s H scope (compEnvC scope cl C X.env) fp) th h
  u : ∀ (s : Shared) (H : Hp) (C : Addr) (cl : List (Str × Addr)) (fp : List Addr), PTs (X.blk s H scope (compEnvC scope cl C X.env) fp) gs tu
  fold2 : ∀ env x, foldedSetIterable jter env x = pure x
theorem dc2_main (Z : Dc2 X kx vx tg iter th jter fs gs scope own us wi wj g h tt tu tk tv) {pins : List (Addr × Obj)} {s : Shared} {σ : L2.St} {H : Hp} {Q : VK} {p2 : Pos} {use : Option (Value → Sem Unit)} {Qf : Value → Shared → Prop} (I : Inv X pins σ H s)
    (want : tDc2 wi g tt wj h tu tk tv (own.map (·.2)) us σ H Q)
    (hRR : ∀ D C s' m H', Inv X pins σ H' s' → Q (.ref D) H' → s'.heap.Ns C m → FpOk X pins H' C → compPost (model X.prog X.w) X.A X.xe use Qf (.ref D) C (.ok .next) s') :
    wpAny (model X.prog X.w) X.A (comprehension (dc2X kx vx tg iter th jter fs gs scope pos) scope X.env p2 newDict false (eval iter X.env) use) Qf X.xe s := by
  have ok := Z.ok
  have hc := Z.calm
  have hfree : ∀ y ∈ scope.names, y.2 = .free → ∃ c, X.env.cells.lookup y.1 = some c := fun y hy e => (ok.free y hy e).elim (fun k => I.ok.has _ (.inl k)) fun k => I.ok.has _ (.inr k)
  refine wpAny_comprehension_free (use := use) rfl Z.fold (closure_ok hfree) ok.kind (fun y hy e => by rw [ok.uniq y hy, e]) (thn (Z.i.run pins s σ H _ I want) fun xv s1 hx => thn hx fun itv s2 h2 => ?_)
  obtain ⟨it, fp, tn, J, H2, e, I2, T, st2, f2, q⟩ := h2
  subst e
  refine wpAny_newObj_type (newEnv_comp ?_)
  generalize hD : s2.heap.objs.size = D
  have hDn : H2 D = none := I2.hok.fresh (Nat.le_of_eq hD)
  obtain ⟨W, ⟨m0, w0⟩, turn⟩ := q D hDn
  generalize hs3 : ({ s2 with heap := s2.heap.push { cls := .type "dict", data := .dict #[] } } : Shared) = s3
  have h3 : s3.heap = s2.heap.push { cls := .type "dict", data := .dict #[] } := by rw [← hs3]
  have I3 : Inv X pins σ (L2.upd H2 D (.dK [])) s3 := by
    rw [← hs3]
    refine I2.laid (t' := s2.toks) (fun b o e => Heap.get?_push_of_some _ e) (Nat.le_of_eq hD) ?_
    exact hD ▸ dk_empty s2.heap I2.big
  have low : ∀ b ∈ fp, b < s2.heap.objs.size := fun b hb => let ⟨o, e, _⟩ := T.obj _ _ st2 b hb; Heap.lt_size e
  have f3 : ∀ b ∈ fp, FpOk X pins (L2.upd H2 D (.dK [])) b ∧ b < s3.heap.objs.size := fun b hb => by
    have hlt := low b hb
    exact ⟨⟨by rw [upd_ne (by rw [← hD]; exact Nat.ne_of_lt hlt)]; exact (f2 b hb).1, (f2 b hb).2⟩, by rw [h3, Heap.size_push]; exact Nat.lt_succ_of_lt hlt⟩
  have st3 : tn 0 s3.heap := T.keep _ _ _ st2 fun b _ o e => by rw [h3]; exact Heap.get?_push_of_some _ e
  have I4 := block_start I3 ok Z.nd f3
  have pg := Z.g s3 (L2.upd H2 D (.dK [])) s3.heap.objs.size (cellsFrom (s3.heap.objs.size + 1) scope.names (cloFrom X.env.cells scope.names [])) fp
  have pt := Z.t s3 (L2.upd H2 D (.dK [])) s3.heap.objs.size (cellsFrom (s3.heap.objs.size + 1) scope.names (cloFrom X.env.cells scope.names [])) fp
  have pk := Z.k s3 (L2.upd H2 D (.dK [])) s3.heap.objs.size (cellsFrom (s3.heap.objs.size + 1) scope.names (cloFrom X.env.cells scope.names [])) fp
  have pv := Z.v s3 (L2.upd H2 D (.dK [])) s3.heap.objs.size (cellsFrom (s3.heap.objs.size + 1) scope.names (cloFrom X.env.cells scope.names [])) fp
  have pj := Z.j s3 (L2.upd H2 D (.dK [])) s3.heap.objs.size (cellsFrom (s3.heap.objs.size + 1) scope.names (cloFrom X.env.cells scope.names [])) fp
  have ph := Z.h s3 (L2.upd H2 D (.dK [])) s3.heap.objs.size (cellsFrom (s3.heap.objs.size + 1) scope.names (cloFrom X.env.cells scope.names [])) fp
  have pu := Z.u s3 (L2.upd H2 D (.dK [])) s3.heap.objs.size (cellsFrom (s3.heap.objs.size + 1) scope.names (cloFrom X.env.cells scope.names [])) fp
  show codeAny _ _ (.compStart (dc2X kx vx tg iter th jter fs gs scope pos) 0 (.ref it) (.ref D) (compEnvC scope (cellsFrom (s3.heap.objs.size + 1) scope.names (cloFrom X.env.cells scope.names [])) s3.heap.objs.size X.env)) (compPost (model X.prog X.w) X.A X.xe use Qf (.ref D) s3.heap.objs.size) { s3 with heap := pushCells (s3.heap.push { cls := .type "dict", data := .dict #[] }) scope.names }
  have nfp : ∀ b ∈ fp, (L2.upd H2 D (.dK [])) b = none := fun b hb => (f3 b hb).1.1
  generalize hce : compEnvC scope (cellsFrom (s3.heap.objs.size + 1) scope.names (cloFrom X.env.cells scope.names [])) s3.heap.objs.size X.env = ce at I4 pg pt pk pv pj ph pu ⊢
  have cL : ce.locals = s3.heap.objs.size := by subst hce; rfl
  generalize hH3 : L2.upd H2 D (.dK []) = H3 at I3 I4 pg pt pk pv pj ph pu w0 nfp f3
  generalize hs4 : ({ s3 with heap := pushCells (s3.heap.push { cls := .type "dict", data := .dict #[] }) scope.names } : Shared) = s4 at I4 ⊢
  have st4 : tn 0 s4.heap := T.keep _ _ _ st3 fun b _ o e => by rw [← hs4]; exact pushCells_keeps _ _ _ _ (Heap.get?_push_of_some _ e)
  have stat : ∀ {σ' : L2.St} {H' : Hp} {s' : Shared}, Inv (X.blk s3 H3 scope ce fp) [] σ' H' s' → (∀ b ∈ fp, H' b = none) → ∀ b ∈ fp, FpOk (X.blk s3 H3 scope ce fp) [] H' b := fun {σ' H' s'} I' hn b hb => ⟨hn b hb, (I'.ok.exf b hb).1, I'.ok.exfs b hb, .inl hb, fun x c e => (I'.ok.exf b hb).2 x c e, fun p hp => absurd (show p ∈ ([] : List (Addr × Obj)) ++ [] from hp) (by simp)⟩
  have wl : ∀ (τ : L2.St) (l : List Nat), (L2.wipe τ l).length = τ.length := fun τ l => wipe_length τ l
  have loop : codeAny (model X.prog X.w) X.A (.compLoop (dc2X kx vx tg iter th jter fs gs scope pos) 0 (.ref it) (.ref D) ce) (compPost (model X.prog X.w) X.A X.xe use Qf (.ref D) s3.heap.objs.size) s4 := by
    refine dc2_loop0 (Z.fold2 ce) (fun n s' => ∃ i H', Inv (X.blk s3 H3 scope ce fp) [] (L2.wipe σ (own.map (·.2))) H' s' ∧ tn i s'.heap ∧ (∀ b ∈ fp, H' b = none) ∧ W i n H') ?_ m0 ⟨0, H3, I4, st4, nfp, w0⟩
    rintro n s5 ⟨i, H5, I5, st5, n5, w5⟩
    rcases turn i n H5 w5 with ⟨stop, qq⟩ | ⟨go, N, hN, step⟩
    · refine thnF (T.done (X.blk s3 H3 scope ce fp) rfl rfl rfl hc i [] s5 _ H5 (fun _ _ => False) I5 (stat I5 n5) st5 stop) fun r s6 ⟨hr, I6⟩ => ?_
      subst hr
      have I7 : Inv X pins σ H5 s6 := I3.call' (ch := fp) I6.os I6.base I6.hok I6.bare fun b hb => let ⟨z, _⟩ := f3 b hb; ⟨z.2.2.2.1, z.2.1, z.2.2.2.2.1, z.2.2.2.2.2⟩
      have nC : H5 s3.heap.objs.size = none := cL ▸ (show H5 ce.locals = none from I6.free)
      obtain ⟨m, hn, _⟩ := I6.loc
      exact hRR D s3.heap.objs.size s6 m H5 I7 qq (cL ▸ (show s6.heap.Ns ce.locals m from hn)) (I3.fpOk (Nat.le_refl _) nC)
    · refine thnF (T.item (X.blk s3 H3 scope ce fp) rfl rfl rfl hc i [] s5 _ H5 (fun _ _ => False) I5 (stat I5 n5) st5 go) fun r s6 ⟨u, hr, h6⟩ => ?_
      subst hr
      refine thnF h6 fun _ s7 ⟨x, H7, I7, r7, y7, st7, n7⟩ => ?_
      refine thnF (pg.run _ s7 _ H7 x u _ (I7.pinned (stat I7 n7) (T.obj _ _ st7)) r7 (step x H7 y7)) fun _ s8 ⟨σ8, H8, I8, hw8, q8⟩ => ?_
      refine thnF (show wpAny _ _ (testAll fs ce) _ _ s8 from pt.run _ s8 σ8 H8 _ I8 q8) fun b s9 ⟨H9, I9, q9⟩ => ?_
      have fin : ∀ {σ9 : L2.St} {s' : Shared} {H' : Hp}, Inv (X.blk s3 H3 scope ce fp) ([] ++ pinsAt fp s7.heap) σ9 H' s' → (L2.wipe σ (own.map (·.2))).length = σ9.length → (∀ (j : Nat) v, (L2.wipe σ (own.map (·.2)))[j]? = some (some v) → σ9[j]? = some (some v)) → N H' →
          ∃ m, m < n ∧ ∃ i H', Inv (X.blk s3 H3 scope ce fp) [] (L2.wipe σ (own.map (·.2))) H' s' ∧ tn i s'.heap ∧ (∀ b ∈ fp, H' b = none) ∧ W i m H' := fun {σ9 s' H'} I' hl hk nx => by
        obtain ⟨m', hm, w'⟩ := hN H' nx
        have pin : ∀ b ∈ fp, ∀ o, s7.heap.get? b = some o → s'.heap.get? b = some o ∧ H' b = none := fun b hb o e => let z := I'.pin (b, o) (List.mem_append_right _ (List.mem_append_right _ (mem_pinsAt hb e))); ⟨z.1, z.2.1⟩
        exact ⟨m', hm, i + 1, H', (I'.unpinned (pins := [])).weak hl hk, T.keep _ _ _ st7 fun b hb o e => (pin b hb o e).1, fun b hb => let ⟨o, e, _⟩ := T.obj _ _ st7 b hb; (pin b hb o e).2, w'⟩
      have hl8 : (L2.wipe σ (own.map (·.2))).length = σ8.length := hw8 ▸ wl σ8 _
      have hk8 : ∀ (j : Nat) v, (L2.wipe σ (own.map (·.2)))[j]? = some (some v) → σ8[j]? = some (some v) := fun j v e => (wipe_some (hw8.symm ▸ e)).1
      have hk9 : ∀ (j : Nat) v, (L2.wipe σ (own.map (·.2)))[j]? = some (some v) → (L2.wipe σ8 us)[j]? = some (some v) := fun j v e => by
        obtain ⟨e1, e2⟩ := wipe_some (hw8.symm ▸ e)
        rw [wipe_out fun z => e2 (Z.sub j z), e1]
      cases b with
      | false =>
        simp only [Bool.false_eq_true, if_false] at q9 ⊢; exact fin I9 hl8 hk8 q9
      | true =>
        simp only [if_true] at q9 ⊢; refine thnF (pj.run _ s9 σ8 H9 _ I9 q9) fun xv s10 hx => thnF hx fun itv s11 h11 => ?_
        obtain ⟨jt, gp, un, J2, H11, e1, I11, T1, st11, f11, U, ⟨m1, w1⟩, turn1⟩ := h11
        subst e1
        have stat1 : ∀ {H' : Hp}, (∀ b ∈ gp, H' b = none) → ∀ b ∈ gp, FpOk (X.blk s3 H3 scope ce fp) ([] ++ pinsAt fp s7.heap) H' b := fun hn b hb => ⟨hn b hb, (f11 b hb).2⟩
        have loop1 : codeAny (model X.prog X.w) X.A (.compLoop (dc2X kx vx tg iter th jter fs gs scope pos) 1 (.ref jt) (.ref D) ce) (fun r s' => match r with
            | .ok _ => ∃ m, m < n ∧ ∃ i H', Inv (X.blk s3 H3 scope ce fp) [] (L2.wipe σ (own.map (·.2))) H' s' ∧ tn i s'.heap ∧ (∀ b ∈ fp, H' b = none) ∧ W i m H'
            | .error _ => False) s11 := by
          refine dc2_loop1 (fun k s' => ∃ j H', Inv (X.blk s3 H3 scope ce fp) ([] ++ pinsAt fp s7.heap) (L2.wipe σ8 us) H' s' ∧ un j s'.heap ∧ (∀ b ∈ gp, H' b = none) ∧ U j k H') ?_ m1 ⟨0, H11, I11.weak (wl _ _) (fun j v e => (wipe_some e).1), st11, fun b hb => (f11 b hb).1, w1⟩
          rintro k s12 ⟨j, H12, I12, st12, n12, w12⟩
          rcases turn1 j k H12 w12 with ⟨stop1, nx1⟩ | ⟨go1, M, hM, step1⟩
          · refine thnF (T1.done (X.blk s3 H3 scope ce fp) rfl rfl rfl hc j _ s12 (L2.wipe σ8 us) H12 (fun _ _ => False) I12 (stat1 n12) st12 stop1) fun r s13 ⟨hr, I13⟩ => ?_
            subst hr
            exact fin I13 (hl8.trans (wl σ8 us).symm) hk9 nx1
          · refine thnF (T1.item (X.blk s3 H3 scope ce fp) rfl rfl rfl hc j _ s12 (L2.wipe σ8 us) H12 (fun _ _ => False) I12 (stat1 n12) st12 go1) fun r s13 ⟨u1, hr, h13⟩ => ?_
            subst hr
            refine thnF h13 fun _ s14 ⟨x1, H14, I14, r14, y14, st14, n14⟩ => ?_
            refine thnF (ph.run _ s14 (L2.wipe σ8 us) H14 x1 u1 _ (I14.pinned (stat1 n14) (T1.obj _ _ st14)) r14 (step1 x1 H14 y14)) fun _ s15 ⟨σ15, H15, I15, hw15, q15⟩ => ?_
            refine thnF (show wpAny _ _ (testAll gs ce) _ _ s15 from pu.run _ s15 σ15 H15 _ I15 q15) fun b1 s16 ⟨H16, I16, q16⟩ => ?_
            have fin1 : ∀ {s' : Shared} {H' : Hp}, Inv (X.blk s3 H3 scope ce fp) (([] ++ pinsAt fp s7.heap) ++ pinsAt gp s14.heap) σ15 H' s' → M H' → ∃ m, m < k ∧ ∃ j H', Inv (X.blk s3 H3 scope ce fp) ([] ++ pinsAt fp s7.heap) (L2.wipe σ8 us) H' s' ∧ un j s'.heap ∧ (∀ b ∈ gp, H' b = none) ∧ U j m H' := fun {s' H'} I' nx => by
              obtain ⟨m', hm, w'⟩ := hM H' nx
              have pin : ∀ b ∈ gp, ∀ o, s14.heap.get? b = some o → s'.heap.get? b = some o ∧ H' b = none := fun b hb o e => let z := I'.pin (b, o) (List.mem_append_right _ (List.mem_append_right _ (mem_pinsAt hb e))); ⟨z.1, z.2.1⟩
              exact ⟨m', hm, j + 1, H', I'.unpinned.weak (hw15 ▸ wl σ15 us) (fun j v e => (wipe_some (hw15.symm ▸ e)).1), T1.keep _ _ _ st14 fun b hb o e => (pin b hb o e).1, fun b hb => let ⟨o, e, _⟩ := T1.obj _ _ st14 b hb; (pin b hb o e).2, w'⟩
            cases b1 with
            | false =>
              simp only [Bool.false_eq_true, if_false] at q16 ⊢; exact fin1 I16 q16
            | true =>
              simp only [if_true] at q16 ⊢; refine thnF (pk.run _ s16 σ15 H16 _ I16 q16) fun z s17 ⟨yk, H17, I17, r17, q17⟩ => ?_
              refine thnF (pv.run _ s17 σ15 H17 _ I17 q17) fun z2 s18 ⟨yv, H18, I18, r18, kvs, k, ek, hD18, hz18, nx⟩ => ?_
              subst ek
              exact d_dictSet (X := X.blk s3 H3 scope ce fp) I18 hD18 hz18 r17 r18 fun s19 I19 => fin1 I19 nx
        exact dc2_start1 loop1 (T1.self X.A 0 _ _ _ st11 loop1)
  exact codeAny_compStart_dict loop (T.self X.A 0 _ _ _ st4 loop)
end
end Ab

namespace Ab
open PySem PySem.Spec PyProof.Rows L2
section
variable {X : Cx} {pos : Pos}
def dc2L (K : PySem.W.Frag) (g : ATG) (tt : ATT) (wj : ATI) (h : ATG) (tu : ATT) (tk tv : ATE) (us : List Nat) (G : AHp → Prop) (D : Addr) (q : AK) (a : ASt) : List AV → AHp → Prop
  | [], m => G m ∧ q (.ref D) m
  | x :: xs, m => G m ∧ g x a m fun a2 m2 => tt a2 m2 fun b m3 => if b = true then wj a2 m3 fun ys G2 m4 => dcL K h tu tk tv G2 D (fun _ m5 => Fg K m5 fun m6 => dc2L K g tt wj h tu tk tv us G D q a xs m6) (wipeA a2 us) ys m4
    else Fg K m3 fun m6 => dc2L K g tt wj h tu tk tv us G D q a xs m6
def aDc2 (K : PySem.W.Frag) (w : ATI) (g : ATG) (tt : ATT) (wj : ATI) (h : ATG) (tu : ATT) (tk tv : ATE) (vs us : List Nat) : ATE := fun a m q => w a m fun xs G m1 => ∀ D, m1 D = none → dc2L K g tt wj h tu tk tv us G D q (wipeA a vs) xs (updA m1 D (.dK []))
theorem dcI_of {K : PySem.W.Frag} {h : ATG} {tu : ATT} {tk tv : ATE} {sl us : List Nat} (hsl : ∀ i ∈ sl, i ∈ us) {a2 : ASt} {σ2 : L2.St} {H4 : Hp} {ys : List AV} {G : AHp → Prop} {m4 : AHp} {J : It} {D : Addr} {q : AK} {N : Hp → Prop} (s : SimS K H4 a2 σ2) (g4 : SimH K H4 m4) (S : ItS K H4 ys G J)
    (run : dcL K h tu tk tv G D q (wipeA a2 us) ys m4) (fin : ∀ m H', Le K H4 H' → SimH K H' m → q (.ref D) m → N H') :
    ∃ U : Nat → Nat → Hp → Prop, (∃ m, U 0 m H4) ∧ ∀ j k H, U j k H → (J.stop j H ∧ N H) ∨ (J.go j H ∧ ∃ M : Hp → Prop, (∀ H', M H' → ∃ k', k' < k ∧ U (j + 1) k' H') ∧ ∀ x H', J.yld j H x H' → clG K sl h x (L2.wipe σ2 us) H' fun σ3 H5 => L2.wipe σ3 us = L2.wipe σ2 us ∧ clT K tu σ3 H5 fun b H6 =>
      if b = true then clE K tk σ3 H6 fun y H7 => clE K tv σ3 H7 fun z H8 => ∃ kvs k, y = kV k ∧ H8 D = some (.dK kvs) ∧ kvs.length < sizeLine ∧ M (L2.upd H8 D (.dK (putK kvs k z))) else M H6) := by
  refine ⟨fun i k H' => k = ys.length - i ∧ i ≤ ys.length ∧ ∃ m, Le K H4 H' ∧ SimH K H' m ∧ dcL K h tu tk tv G D q (wipeA a2 us) (ys.drop i) m, ⟨ys.length, by simp, Nat.zero_le _, _, .refl, g4, run⟩, ?_⟩
  rintro i k H2 ⟨rfl, hi, m2, l2, g2, q2⟩
  have s2 : SimS K H2 (wipeA a2 us) (L2.wipe σ2 us) := (s.wiped us).mono l2
  by_cases hlt : i < ys.length
  · rw [List.drop_eq_getElem_cons hlt] at q2
    obtain ⟨gm, q2⟩ := q2
    refine .inr ⟨S.go i H2 m2 l2 g2 gm hlt, fun H' => ∃ m, Le K H4 H' ∧ SimH K H' m ∧ dcL K h tu tk tv G D q (wipeA a2 us) (ys.drop (i + 1)) m, fun H' z => ⟨ys.length - (i + 1), by omega, rfl, hlt, z⟩, fun v H3 y => ?_⟩
    obtain ⟨l3, g3, r3⟩ := S.yld i H2 m2 v H3 ys[i] l2 g2 gm (List.getElem?_eq_getElem hlt) y
    refine ⟨ys[i], wipeA a2 us, m2, _, r3, s2.mono l3, g3, q2, fun t4 m4 σ4 H4 l4 s4 g4 z1 z2 q4 => ⟨wipe_same hsl z1 z2, t4, m4, _, s4, g4, q4, fun b m5 H5 l5 g5 q5 => ?_⟩⟩
    cases b with
    | false =>
      rw [if_neg Bool.false_ne_true]
      have q5 := (if_neg Bool.false_ne_true) ▸ q5
      obtain ⟨m6, z, q5⟩ := q5
      exact ⟨m6, l2.trans (l3.trans (l4.trans l5)), z _ g5, q5⟩
    | true =>
      rw [if_pos rfl]
      have q5 := (if_pos rfl) ▸ q5
      refine ⟨t4, m5, _, s4.mono l5, g5, q5, fun y m6 v6 H6 l6 g6 r6 q6 => ⟨t4, m6, _, s4.mono (l5.trans l6), g6, q6, fun z m7 v7 H7 l7 g7 r7 ⟨m7, z7, q7⟩ => ?_⟩⟩
      have g7 := z7 _ g7
      cases ek : keyOf y with
      | none => simp only [ek] at q7
      | some kk =>
        cases e7 : m7 D with
        | none => simp only [ek, e7] at q7
        | some o =>
          cases o with
          | dK acc =>
            simp only [ek, e7] at q7
            obtain ⟨ws, f1, f2⟩ := g7 D _ e7
            have hk := key_sim r6 ek
            subst hk
            have hl : acc.length = ws.length := Paired.length f2
            have l8 : Le K H7 (L2.upd H7 D (.dK (putK ws kk v7))) := .dict f1
            exact ⟨ws, kk, rfl, f1, by rw [← hl]; exact q7.1, _, l2.trans (l3.trans (l4.trans (l5.trans (l6.trans (l7.trans l8))))), g7.dictPut e7 f1 (putA_sim f2 r7), q7.2⟩
          | _ => simp only [ek, e7] at q7
  · have hi' : ys.length ≤ i := Nat.le_of_not_lt hlt
    rw [List.drop_eq_nil_of_le hi'] at q2
    exact .inl ⟨S.stop i H2 m2 l2 g2 q2.1 hi', fin m2 H2 l2 g2 q2.2⟩
theorem dc2_of {K : PySem.W.Frag} {w wj : ATI} {g h : ATG} {tt tu : ATT} {tk tv : ATE} {sl sj vs us : List Nat} (hsl : ∀ i ∈ sl, i ∈ vs) (hsj : ∀ i ∈ sj, i ∈ us) {σ : L2.St} {H : Hp} {Q : VK} (hh : clE K (aDc2 K w g tt wj h tu tk tv vs us) σ H Q) :
    tDc2 (clI K w) (clG K sl g) (clT K tt) (clI K wj) (clG K sj h) (clT K tu) (clE K tk) (clE K tv) vs us σ H Q := by
  obtain ⟨a, m, q, h1, h2, h3, h4⟩ := hh
  refine ⟨a, m, _, h1, h2, h3, fun xs G m1 J H1 l1 g1 S q1 => fun D hD => ?_⟩
  have q1 := q1 D (g1.free hD)
  have lD : Le K H1 (L2.upd H1 D (.dK [])) := .new hD
  refine ⟨fun i k H' => k = xs.length - i ∧ i ≤ xs.length ∧ ∃ m, Le K (L2.upd H1 D (.dK [])) H' ∧ SimH K H' m ∧ dc2L K g tt wj h tu tk tv us G D q (wipeA a vs) (xs.drop i) m, ⟨xs.length, by simp, Nat.zero_le _, _, .refl, g1.new hD (o := .dK []) ⟨[], upd_same, .nil⟩, q1⟩, ?_⟩
  rintro i k H2 ⟨rfl, hi, m2, l2, g2, q2⟩
  have l12 := lD.trans l2
  have s2 : SimS K H2 (wipeA a vs) (L2.wipe σ vs) := (h1.wiped vs).mono (l1.trans l12)
  by_cases hlt : i < xs.length
  · rw [List.drop_eq_getElem_cons hlt] at q2
    obtain ⟨gm, q2⟩ := q2
    refine .inr ⟨S.go i H2 m2 l12 g2 gm hlt, fun H' => ∃ m, Le K (L2.upd H1 D (.dK [])) H' ∧ SimH K H' m ∧ dc2L K g tt wj h tu tk tv us G D q (wipeA a vs) (xs.drop (i + 1)) m, fun H' z => ⟨xs.length - (i + 1), by omega, rfl, hlt, z⟩, fun v H3 y => ?_⟩
    obtain ⟨l3, g3, r3⟩ := S.yld i H2 m2 v H3 xs[i] l12 g2 gm (List.getElem?_eq_getElem hlt) y
    refine ⟨xs[i], wipeA a vs, m2, _, r3, s2.mono l3, g3, q2, fun t4 m4 σ4 H4 l4 s4 g4 z1 z2 q4 => ⟨wipe_same hsl z1 z2, t4, m4, _, s4, g4, q4, fun b m5 H5 l5 g5 q5 => ?_⟩⟩
    cases b with
    | false =>
      rw [if_neg Bool.false_ne_true]
      have q5 := (if_neg Bool.false_ne_true) ▸ q5
      obtain ⟨m6, z, q5⟩ := q5
      exact ⟨m6, l2.trans (l3.trans (l4.trans l5)), z _ g5, q5⟩
    | true =>
      rw [if_pos rfl]
      have q5 := (if_pos rfl) ▸ q5
      refine ⟨t4, m5, _, s4.mono l5, g5, q5, fun ys G2 m6 J2 H6 l6 g6 S2 q6 => ?_⟩
      exact dcI_of hsj (s4.mono (l5.trans l6)) g6 S2 q6 fun m7 H7 l7 g7 ⟨m8, z8, q8⟩ => ⟨m8, l2.trans (l3.trans (l4.trans (l5.trans (l6.trans l7)))), z8 _ g7, q8⟩
  · have hi' : xs.length ≤ i := Nat.le_of_not_lt hlt
    rw [List.drop_eq_nil_of_le hi'] at q2
    exact .inl ⟨S.stop i H2 m2 l12 g2 q2.1 hi', h4 _ m2 _ H2 (l1.trans l12) g2 (.ref D) q2.2⟩
variable {kx vx tg iter th jter : Expr} {fs gs : List Expr} {scope : Scope} {own : List (Str × Nat)} {w wj : ATI} {sl sj us : List Nat} {g h : ATG} {tt tu : ATT} {tk tv : ATE}
theorem as_setDc2 {i : Nat} {y : Str} {py spos : Pos} (hc : X.calm = true) (hN : X.N.Nodup) (hy : X.N[i]? = some y) (hyl : X.env.scope.names.lookup y = some .local)
    (hsw : swapsWith (dc2X kx vx tg iter th jter fs gs scope pos) (some (.Name y py)) spos.line X.env = pure true) (hi : AI X tg iter w) (ok : BlkOk X.N X.env.scope scope own) (sub : ∀ i ∈ us, i ∈ own.map (·.2))
    (hg : ∀ (s : Shared) (H : Hp) (C : Addr) (cl : List (Str × Addr)) (fp : List Addr), AG (X.blk s H scope (compEnvC scope cl C X.env) fp) tg sl g) (ht : ∀ (s : Shared) (H : Hp) (C : Addr) (cl : List (Str × Addr)) (fp : List Addr), ATs (X.blk s H scope (compEnvC scope cl C X.env) fp) fs tt)
    (hj : ∀ (s : Shared) (H : Hp) (C : Addr) (cl : List (Str × Addr)) (fp : List Addr), AI (X.blk s H scope (compEnvC scope cl C X.env) fp) th jter wj)
    (hh : ∀ (s : Shared) (H : Hp) (C : Addr) (cl : List (Str × Addr)) (fp : List Addr), AG (X.blk s H scope (compEnvC scope cl C X.env) fp) th sj h) (hu : ∀ (s : Shared) (H : Hp) (C : Addr) (cl : List (Str × Addr)) (fp : List Addr), ATs (X.blk s H scope (compEnvC scope cl C X.env) fp) gs tu)
    (hk : ∀ (s : Shared) (H : Hp) (C : Addr) (cl : List (Str × Addr)) (fp : List Addr), AE (X.blk s H scope (compEnvC scope cl C X.env) fp) kx tk)
    (hv : ∀ (s : Shared) (H : Hp) (C : Addr) (cl : List (Str × Addr)) (fp : List Addr), AE (X.blk s H scope (compEnvC scope cl C X.env) fp) vx tv) (hsl : ∀ i ∈ sl, i ∈ own.map (·.2) := by decide) (hsj : ∀ i ∈ sj, i ∈ us := by decide) (hs : ∀ x, foldedSetIterable iter X.env x = pure x := by intro _; rfl) (hs2 : ∀ env x, foldedSetIterable jter env x = pure x := by intro _ _; rfl) :
    AS X (.Assign [.Name y py] (dc2X kx vx tg iter th jter fs gs scope pos) spos) (aAsg (aDc2 X.K w g tt wj h tu tk tv (own.map (·.2)) us) (aName i)) := by
  refine ⟨fun pins s σ H D inv ⟨a, m, d, h1, h2, h3, h4⟩ => ?_⟩
  have z : clE X.K (aDc2 X.K w g tt wj h tu tk tv (own.map (·.2)) us) σ H (fun x H1 => gName i x σ H1 D.nx) := ⟨a, m, _, h1, h2, h3, fun x m1 v H1 l g1 r q => h4.nx _ m1 _ H1 l ((h1.mono l).put r i) g1 q⟩
  rw [exec_Assign_Name_used _ _ _ _ hsw]
  refine wpAny_bind (wpAny_standAt (wpAny_bind ?_))
  show wpAny _ X.A (comprehension (dc2X kx vx tg iter th jter fs gs scope pos) scope X.env (firstIterPos [⟨tg, iter, fs, 0⟩, ⟨th, jter, gs, 0⟩] pos) newDict false (eval iter X.env) (some (assign (.Name y py) X.env)) >>= fun _ => pure ()) _ _ s
  have main := dc2_main (pos := pos) (use := some (assign (.Name y py) X.env)) (Qf := fun _ s2 => SP X pins D .next s2) (p2 := firstIterPos [⟨tg, iter, fs, 0⟩, ⟨th, jter, gs, 0⟩] pos) ⟨hc, hN, hi, ok, sub, hg, ht, hk, hv, hs, hj, hh, hu, hs2⟩ inv (dc2_of hsl hsj z) ?_
  · exact wpAny_bind (thn main fun _ s2 q => wpAny_pure (wpAny_pure q))
  · intro L C s2 m H2 inv2 q ns fp
    show wpAny _ _ (assign (.Name y py) X.env (.ref L)) _ _ _
    refine wpAny_assign_Name (store_ok2 (v := V.ref L) inv2 hN hy (.inl hyl) rfl ?_ (.inr hyl))
    rintro s3 inv3 ⟨b, same, hb⟩
    obtain ⟨f0, f1, f2, f3, f4, f5⟩ := fp
    have apart : C ≠ b := hb.elim (fun z => by rw [z]; exact f1) fun z e => f4 y b z e.symm
    exact ⟨m, ns.sameBut same apart, fun h4 same4 => ⟨_, H2, inv3.turned (t' := s3.toks) (fun c o hc2 e => (same4.2 c hc2).trans e) f0 f1 f3 f4 f5, q⟩⟩

def aDNew : ATE := fun _ m q => ∀ p, m p = none → q (.ref p) (updA m p (.dK []))
theorem ae_dnew : AE X (.Dict [] [] pos) aDNew := ae_of pe_dnewK fun a m q σ H Q h1 h2 h3 h4 p hp => h4 _ _ _ _ (.new hp) (h2.new hp (o := .dK []) ⟨[], upd_same, .nil⟩) (.ref p) (h3 p (h2.free hp))
variable {o e f : Expr} {to te tf : ATE} {apos cpos : Pos}
def dAt (m : AHp) (a : Addr) : Option (List (Key × AV)) := match m a with
  | some (.dK kvs) => some kvs
  | some (.lkd kvs) => some kvs
  | _ => none
theorem dAt_rd {K : PySem.W.Frag} {H : Hp} {m : AHp} {a : Addr} {kvs : List (Key × AV)} (g : SimH K H m) (e : dAt m a = some kvs) : ∃ ws, Rd H a (.dK ws) ∧ SimK K H kvs ws := by
  unfold dAt at e
  split at e
  · rename_i k2 e2
    cases e
    obtain ⟨ws, f1, f2⟩ := g a _ e2
    exact ⟨ws, .inl f1, f2⟩
  · rename_i k2 e2
    cases e
    obtain ⟨od, ws, f1, f2⟩ := g a _ e2
    exact ⟨ws, .inr ⟨od, f1⟩, f2⟩
  · cases e
def isD (m : AHp) (x : AV) (k : Addr → Prop) : Prop := match x with
  | .ref a => (dAt m a).isSome = true ∧ k a
  | _ => False
theorem isD_of {m : AHp} {x : AV} {k : Addr → Prop} (h : isD m x k) : ∃ a kvs, x = .ref a ∧ dAt m a = some kvs ∧ k a := by
  cases x <;> first | exact h.elim | skip
  rename_i a
  obtain ⟨h1, h2⟩ := h
  obtain ⟨kvs, e⟩ := Option.isSome_iff_exists.mp h1
  exact ⟨a, kvs, rfl, e, h2⟩
theorem isD_V {K : PySem.W.Frag} {H : Hp} {m : AHp} {a : Addr} {kvs : List (Key × AV)} (g : SimH K H m) (e : dAt m a = some kvs) : IsD H a := let ⟨ws, r, _⟩ := dAt_rd g e; .inl ⟨ws, r⟩
def aSetd (to te tf : ATE) : ATE := fun t m q => to t m fun x m1 => isD m1 x fun a => te t m1 fun y m2 => tf t m2 fun z m3 => match keyOf y, m3 a with
  | some k, some (.dK kvs) => kvs.length < sizeLine ∧ (match getK kvs k with
    | some v => q v m3
    | none => q z (updA m3 a (.dK (putA kvs k z))))
  | _, _ => False
theorem ae_setd (ho : AE X o to) (he : AE X e te) (hf : AE X f tf) (m : M2 X o "setdefault" apos e f cpos := by first | exact ⟨rfl, rfl, rfl, rfl⟩ | exact ⟨by rfl, by rfl, by rfl, by rfl⟩) : AE X (.Call (.Attribute o "setdefault" apos) [e, f] [] cpos) (aSetd to te tf) :=
  peI (pe_dsetd ho he hf m) fun σ H Q ⟨a, m, q, h1, h2, h3, h4⟩ => by
    refine ⟨a, m, _, h1, h2, h3, fun x m1 v H1 l1 g1 r1 q1 => ?_⟩
    obtain ⟨d, kvs, rfl, ed, q1⟩ := isD_of q1
    cases r1
    refine ⟨d, rfl, isD_V g1 ed, a, m1, _, h1.mono l1, g1, q1, fun y m2 u H2 l2 g2 r2 q2 => ⟨a, m2, _, h1.mono (l1.trans l2), g2, q2, fun z m3 u3 H3 l3 g3 r3 q3 => ?_⟩⟩
    cases ek : keyOf y with
    | none => simp only [ek] at q3
    | some k =>
      cases em : m3 d with
      | none => simp only [ek, em] at q3
      | some ob =>
        cases ob with
        | dK kvs =>
          simp only [ek, em] at q3
          obtain ⟨ws, f1, f2⟩ := g3 d _ em
          have hl : kvs.length = ws.length := Paired.length f2
          have hk := key_sim r2 ek
          subst hk
          have hg := getK_sim (k := k) f2
          refine ⟨ws, k, f1, rfl, by rw [← hl]; exact q3.1, fun v hv => ?_, fun hv => ?_⟩
          · cases eg : getK kvs k with
            | none => simp only [eg] at hg; rw [hg] at hv; cases hv
            | some x =>
              simp only [eg] at hg q3
              obtain ⟨v', e', s'⟩ := hg
              rw [e'] at hv
              cases hv
              exact h4 _ _ _ _ (l1.trans (l2.trans l3)) g3 s' q3.2
          · cases eg : getK kvs k with
            | some x =>
              simp only [eg] at hg
              obtain ⟨v', e', s'⟩ := hg
              rw [e'] at hv
              cases hv
            | none =>
              simp only [eg] at q3
              exact h4 _ _ _ _ (l1.trans (l2.trans (l3.trans (.dict f1)))) (g3.dictPut em f1 (putA_sim f2 r3)) (r3.mono (.dict f1)) q3.2
        | _ => simp only [ek, em] at q3
def aGet1 (to te : ATE) : ATE := fun t m q => to t m fun x m1 => isD m1 x fun a => te t m1 fun y m2 => match keyOf y, dAt m2 a with
  | some k, some kvs => q ((getK kvs k).getD .non) m2
  | _, _ => False
def aGet2 (to te tf : ATE) : ATE := fun t m q => to t m fun x m1 => isD m1 x fun a => te t m1 fun y m2 => tf t m2 fun z m3 => match keyOf y, dAt m3 a with
  | some k, some kvs => q ((getK kvs k).getD z) m3
  | _, _ => False
theorem dget_sim {K : PySem.W.Frag} {H : Hp} {m : AHp} {d : Addr} {kvs : List (Key × AV)} {k : Key} {z : AV} {u : V} (g : SimH K H m) (e : dAt m d = some kvs) (r : SimV K H z u) : ∃ o, DGet H d (kV k) o ∧ SimV K H ((getK kvs k).getD z) (o.getD u) := by
  obtain ⟨ws, f1, f2⟩ := dAt_rd g e
  have hg := getK_sim (k := k) f2
  refine ⟨valV ws k, .inl ⟨ws, k, f1, rfl, rfl⟩, ?_⟩
  cases eg : getK kvs k with
  | none => simp only [eg] at hg; rw [hg]; exact r
  | some x => simp only [eg] at hg; obtain ⟨v', e', s'⟩ := hg; rw [e']; exact s'
theorem ae_get1 (hu : X.A.units + 164 < cLine) (ho : AE X o to) (he : AE X e te) (m : M1 X o "get" apos e cpos := by first | exact ⟨rfl, rfl, rfl, rfl⟩ | exact ⟨by rfl, by rfl, by rfl, by rfl⟩) : AE X (.Call (.Attribute o "get" apos) [e] [] cpos) (aGet1 to te) :=
  peI (pe_dget1 (by omega) ho he m) fun σ H Q ⟨a, m, q, h1, h2, h3, h4⟩ => by
    refine ⟨a, m, _, h1, h2, h3, fun x m1 v H1 l1 g1 r1 q1 => ?_⟩
    obtain ⟨d, kvs, rfl, ed, q1⟩ := isD_of q1
    cases r1
    refine ⟨d, rfl, isD_V g1 ed, a, m1, _, h1.mono l1, g1, q1, fun y m2 u H2 l2 g2 r2 q2 => ?_⟩
    cases ek : keyOf y with
    | none => simp only [ek] at q2
    | some k =>
      cases em : dAt m2 d with
      | none => simp only [ek, em] at q2
      | some kvs =>
        simp only [ek, em] at q2
        have hk := key_sim r2 ek
        subst hk
        obtain ⟨o, d1, s⟩ := dget_sim (k := k) g2 em .non
        exact ⟨o, d1, h4 _ _ _ _ (l1.trans l2) g2 s q2⟩
theorem ae_get2 (hu : X.A.units + 164 < cLine) (ho : AE X o to) (he : AE X e te) (hf : AE X f tf) (m : M2 X o "get" apos e f cpos := by first | exact ⟨rfl, rfl, rfl, rfl⟩ | exact ⟨by rfl, by rfl, by rfl, by rfl⟩) : AE X (.Call (.Attribute o "get" apos) [e, f] [] cpos) (aGet2 to te tf) :=
  peI (pe_dget2 (by omega) ho he hf m) fun σ H Q ⟨a, m, q, h1, h2, h3, h4⟩ => by
    refine ⟨a, m, _, h1, h2, h3, fun x m1 v H1 l1 g1 r1 q1 => ?_⟩
    obtain ⟨d, kvs, rfl, ed, q1⟩ := isD_of q1
    cases r1
    refine ⟨d, rfl, isD_V g1 ed, a, m1, _, h1.mono l1, g1, q1, fun y m2 u H2 l2 g2 r2 q2 => ⟨a, m2, _, h1.mono (l1.trans l2), g2, q2, fun z m3 u3 H3 l3 g3 r3 q3 => ?_⟩⟩
    cases ek : keyOf y with
    | none => simp only [ek] at q3
    | some k =>
      cases em : dAt m3 d with
      | none => simp only [ek, em] at q3
      | some kvs =>
        simp only [ek, em] at q3
        have hk := key_sim r2 ek
        subst hk
        obtain ⟨o, d1, s⟩ := dget_sim (k := k) g3 em r3
        exact ⟨o, d1, h4 _ _ _ _ (l1.trans (l2.trans l3)) g3 s q3⟩
end
end Ab

namespace Ab
open PySem PySem.Spec PyProof.Rows L2
theorem rev_places (n : Nat) : Builtin.Slice.sliceAdjust none none (-1) (n : Int) = ((n : Int) - 1, -1) ∧ Builtin.Slice.slicePlaces ((n : Int) - 1) (-1) (-1) = n := by
  refine ⟨rfl, ?_⟩
  unfold Builtin.Slice.slicePlaces
  rw [if_neg (by decide)]
  by_cases h : (n : Int) - 1 > -1
  · rw [if_pos h, show (- -1 : Int) = 1 by decide, Int.ediv_one]
    omega
  · rw [if_neg h]
    omega
theorem fm_congr {α β : Type} {f g : α → Option β} : ∀ {l : List α}, (∀ k ∈ l, f k = g k) → l.filterMap f = l.filterMap g
  | [], _ => rfl
  | x :: l, h => by
    rw [List.filterMap_cons, List.filterMap_cons, h x List.mem_cons_self, fm_congr fun k hk => h k (List.mem_cons_of_mem _ hk)]
theorem rev_pick (xs : Array Value) : ((List.range xs.size).filterMap fun (k : Nat) => xs[(((xs.size : Int) - 1) + (k : Int) * -1).toNat]?) = xs.toList.reverse := by
  have e : ((List.range xs.size).filterMap fun (k : Nat) => xs[(((xs.size : Int) - 1) + (k : Int) * -1).toNat]?) = ((List.range xs.size).map fun k => xs.size - 1 - k).filterMap (xs[·]?) := by
    rw [List.filterMap_map]
    refine fm_congr fun k hk => ?_
    have := List.mem_range.mp hk
    show xs[(((xs.size : Int) - 1) + (k : Int) * -1).toNat]? = xs[xs.size - 1 - k]?
    rw [show (((xs.size : Int) - 1) + (k : Int) * -1).toNat = xs.size - 1 - k by omega]
  rw [e, PySem.W.krv_range, List.filterMap_reverse, PySem.W.krv_all]
section
variable {prog : Program} {w : World} {A : Around} {E : Value → Shared → Prop} {s : Shared}
theorem getItem_tup_rev {t sl : Addr} {items : Array Value} {vl vu vs : Value} {Q : Value → Shared → Prop} (ht : IsTup s.heap t items) (hs : s.heap.IsSliceOf sl vl vu vs) (pl : IsPart vl none) (pu : IsPart vu none) (ps : IsPart vs (some (-1)))
    (h : Q (.ref s.heap.objs.size) { s with heap := s.heap.push { cls := .type "tuple", data := .seq items.toList.reverse.toArray } }) (hsz : items.size ≤ sizeLine) : wpAny (model prog w) A (getItem (.ref t) (.ref sl)) Q E s := by
  obtain ⟨os, hos, hcs, hds⟩ := id hs
  have hT : s.TypeIs (.ref sl) "slice" := ⟨os, hos, hcs⟩
  have fit : sizeOk (.seq items.toList.reverse.toArray) := by
    show items.toList.reverse.toArray.size ≤ sizeLine
    rw [List.size_toArray, List.length_reverse, Array.length_toList]; exact hsz
  unfold getItem
  try with_reducible refine wpAny_holding ?_
  first | refine wpAny_bind (wpAny_pure ?_) | skip
  refine wpAny_bind (wpAny_sequenceKey ht.typeIs (by decide) (wpAny_bind (wpAny_callSpecial?_slot (name := Str.ofString "__getitem__") ht.typeIs PyProof.Rows.slot_tuple_getitem (wpAny_call_entry PyProof.Rows.slot_tuple_getitem ht.typeIs entry_tuple_getitem ?_ (args_tuple_getitem _ _)))))
  show wpAny _ _ (Builtin.Tuple.tupleItemsOf (.ref t) >>= _) _ _ s
  refine wpAny_bind (tupleItemsOf_ ht (wpAny_bind (wpAny_typeOf hT ?_)))
  rw [if_pos (by decide)]
  refine wpAny_bind ?_
  unfold Builtin.Slice.sliceApplied Builtin.Slice.sliceFields
  refine wpAny_bind (wpAny_bind (wpAny_field hos hds (x := vl) rfl (wpAny_bind (wpAny_field hos hds (x := vu) rfl (wpAny_bind (wpAny_field hos hds (x := vs) rfl (wpAny_pure (wpAny_bind (HT.slicePart_ ps ?_)))))))))
  show wpAny _ _ (if ((-1 : Int) == 0) = true then _ else _) _ _ s
  rw [if_neg (by decide)]
  refine wpAny_bind (HT.slicePart_ pl (wpAny_bind (HT.slicePart_ pu (wpAny_bind (wpAny_pure ?_)))))
  have rp := rev_places items.size
  show wpAny _ _ (match Builtin.Slice.sliceAdjust none none (-1) (items.size : Int) with | (lo, hi) => pure (lo, (-1 : Int), Builtin.Slice.slicePlaces lo hi (-1))) _ _ s
  rw [rp.1]
  show wpAny _ _ (pure ((items.size : Int) - 1, (-1 : Int), Builtin.Slice.slicePlaces ((items.size : Int) - 1) (-1) (-1))) _ _ s
  rw [rp.2]
  refine wpAny_pure ?_
  have no : ¬ (((items.size : Int) - 1 == 0 && (-1 : Int) == 1 && items.size == items.size) = true) := by simp
  show wpAny _ _ (if ((items.size : Int) - 1 == 0 && (-1 : Int) == 1 && items.size == items.size) = true then _ else _) _ _ s
  rw [if_neg no, rev_pick]
  first
    | exact wpAny_bind (m := Builtin.Tuple.tupleExact _) (wpAny_newObj_type (wpAny_pure ⟨_, rfl, wpAny_pure h⟩) fit)
    | exact wpAny_bind (m := Builtin.Tuple.tupleExact _) (wpAny_newObj_type (wpAny_bind (wpAny_pure (wpAny_pure ⟨_, rfl, wpAny_pure h⟩))) fit)
    | exact wpAny_bind (wpAny_bind (m := Builtin.Tuple.tupleExact _) (wpAny_newObj_type (wpAny_pure (wpAny_pure ⟨_, rfl, wpAny_pure h⟩)) fit))
    | exact wpAny_bind (wpAny_bind (m := Builtin.Tuple.tupleExact _) (wpAny_newObj_type (wpAny_pure ⟨_, rfl, wpAny_pure h⟩) fit))
end
section
variable {X : Cx} {e : Expr} {te : ATE} {k : Nat} {p1 p2 p3 pos : Pos}
def tRevT (K : PySem.W.Frag) (te : TE) : TE := fun σ H Q => te σ H fun x H1 => ∃ a xs, x = .ref a ∧ ((SqL K H1 a xs ∧ ∀ p, H1 p = none → Q (.ref p) (L2.upd H1 p (.lst xs.reverse))) ∨ (SqT K H1 a xs ∧ ∀ p, H1 p = none → Q (.ref p) (L2.upd H1 p (.tup xs.reverse))))
theorem pe_revT {te : TE} (he : PE X e te) : PE X (.Subscript e (.Slice none none (some (.UnaryOp .USub (.Constant (.int 1) k p1) p2)) p3) pos) (tRevT X.K te) := by
  refine ⟨fun pins s σ H Q I h => Subscript_ (thn (he.run pins s σ H _ I h) fun v s1 ⟨x, H1, I1, r1, a, xs, ex, q1⟩ => ?_)⟩
  subst ex
  cases r1
  have hst : PO X (some (.UnaryOp .USub (.Constant (.int 1) k p1) p2)) (tPart (tUn (rU fun i => .int (-i)) (tC (.int 1)))) := po_some (pe_un un_neg pe_int)
  refine wpAny_Slice (thn (po_none.run pins s1 σ H1 (fun o H2 => o = none ∧ H2 = H1) I1 ⟨rfl, rfl⟩) fun vl s2 ⟨l, H2, I2, pl, el, e2⟩ => ?_)
  subst el e2
  refine thn (po_none.run pins s2 σ H2 (fun o H3 => o = none ∧ H3 = H2) I2 ⟨rfl, rfl⟩) fun vu s3 ⟨u, H3, I3, pu, eu, e3⟩ => ?_
  subst eu e3
  refine thn (hst.run pins s3 σ H3 (fun o H4 => o = some (-1) ∧ H4 = H3) I3 ⟨1, rfl, -1, rfl, rfl, rfl⟩) fun vs s4 ⟨o, H4, I4, ps, eo, e4⟩ => ?_
  subst eo e4
  have I5 : Inv X pins σ H4 { s4 with heap := s4.heap.push { cls := .type "slice", data := .fields #[vl, vu, vs] } } := I4.kept (t' := s4.toks) fun b ob q => Heap.get?_push_of_some _ q
  show wpAny (model X.prog X.w) X.A (subscriptTail e (.Slice none none (some (.UnaryOp .USub (.Constant (.int 1) k p1) p2)) p3) (.ref a) (.ref s4.heap.objs.size)) (EP X pins σ Q) X.xe { s4 with heap := s4.heap.push { cls := .type "slice", data := .fields #[vl, vu, vs] } }
  rcases q1 with ⟨hx, q⟩ | ⟨hx, q⟩
  · obtain ⟨its, r, ht, hz⟩ := I5.list hx
    have hlen := r.length
    refine tail_any (ops := [.ref a, .ref s4.heap.objs.size]) ht.isList.typeIs (PySem.slot_list_getitem.lookup) (wpAny_getItem_list_slice ht.isList (Heap.IsSliceOf.new _ vl vu vs) pl pu ps (by decide) ?_ (by rw [List.size_toArray]; omega)) (by with_unfolding_all rfl)
    rw [PySem.W.krv_pick]
    exact ⟨.ref _, _, I5.laid (t' := s4.toks) (o := .lst xs.reverse) (fun b ob q => Heap.get?_push_of_some _ q) (Nat.le_refl _) ⟨by rw [List.length_reverse]; exact hz, _, 0, r.reverse, Heap.get?_push_size _ rfl⟩, rfl, q _ (I5.hok.fresh (Nat.le_refl _))⟩
  · obtain ⟨its, r, ht, hz⟩ := I5.tuple hx
    have hlen := r.length
    refine tail_any (ops := [.ref a, .ref s4.heap.objs.size]) ht.typeIs (PyProof.Rows.slot_tuple_getitem.lookup) (getItem_tup_rev ht (Heap.IsSliceOf.new _ vl vu vs) pl pu ps ?_ (by rw [List.size_toArray]; omega)) (by with_unfolding_all rfl)
    exact ⟨.ref _, _, I5.laid (t' := s4.toks) (o := .tup xs.reverse) (fun b ob q => Heap.get?_push_of_some _ q) (Nat.le_refl _) ⟨by rw [List.length_reverse]; exact hz, its.reverse, r.reverse, IsTup.new _ _⟩, rfl, q _ (I5.hok.fresh (Nat.le_refl _))⟩
def aRev (te : ATE) : ATE := fun t m q => te t m fun x m1 => match x with
  | .tup xs => q (.tup xs.reverse) m1
  | .ref b => match m1 b with
    | some (.lst xs) => ∀ p, m1 p = none → q (.ref p) (updA m1 p (.lst xs.reverse))
    | _ => False
  | _ => False
theorem ae_rev (he : AE X e te) : AE X (.Subscript e (.Slice none none (some (.UnaryOp .USub (.Constant (.int 1) k p1) p2)) p3) pos) (aRev te) := peI (pe_revT he) fun σ H Q ⟨a, m, q, h1, h2, h3, h4⟩ => by
  refine ⟨a, m, _, h1, h2, h3, fun x m1 v H1 l1 g1 r1 q1 => ?_⟩
  cases x with
  | tup xs =>
    cases r1 with
    | tup f1 f2 => exact ⟨_, _, rfl, .inr ⟨f1, fun p hp => (h4.mono l1).newT g1 f2.reverse hp q1⟩⟩
  | ref b =>
    cases r1
    cases eb : m1 b with
    | none => simp only [eb] at q1
    | some ob =>
      cases ob with
      | lst xs =>
        simp only [eb] at q1
        obtain ⟨ws, f1, f2⟩ := g1 b _ eb
        exact ⟨b, ws, rfl, .inl ⟨SqL.of f1, fun p hp => (h4.mono l1).newL g1 f2.reverse hp q1⟩⟩
      | _ => simp only [eb] at q1
  | _ => exact q1.elim
end
end Ab

namespace Ab
open PySem PySem.Spec PyProof.Rows L2
theorem sz {n : Nat} (h : n ≤ 16777216) : n ≤ sizeLine := h
theorem letters_ok : ∀ x ∈ (Str.ofString "abcdefghijklmnopqrstuvwxyz").cps.toList, 97 ≤ x ∧ x ≤ 122 := by decide +kernel
theorem map_strs (cs : List Nat) : (cs.map fun i => AV.str ⟨#[i]⟩) = (cs.map fun i => (⟨#[i]⟩ : Str)).map AV.str := by
  rw [List.map_map]
  rfl
theorem sum_ones : ∀ cs : List Nat, (cs.map fun _ => 1).sum = cs.length
  | [] => rfl
  | c :: cs => by rw [List.map_cons, List.sum_cons, sum_ones cs, List.length_cons]; omega
def kinds : List Str := ["same", "both", "call", "either", "fresh", "unlike", "number", "word", "absent", "x", "put", "go"]
theorem kinds_ok : ∀ w ∈ kinds, Word w := fun w h => (isWord_iff w).mp ((by decide +kernel : ∀ w ∈ kinds, isWord w = true) w h)
theorem upto_mem {n : Nat} {x : AV} (h : x ∈ upto n) : ∃ i : Nat, x = .int i ∧ i < n := by
  unfold upto at h
  obtain ⟨i, hi, rfl⟩ := List.mem_map.mp h
  exact ⟨i, rfl, List.mem_range.mp hi⟩
theorem updA_swap {m : AHp} {p a : Addr} {o u : AO} (h : a ≠ p) : updA (updA m p o) a u = updA (updA m a u) p o := by
  funext b
  by_cases h1 : b = a
  · subst h1; rw [updA_same, updA_ne h, updA_same]
  · by_cases h2 : b = p
    · subst h2; rw [updA_ne h1, updA_same, updA_same]
    · rw [updA_ne h1, updA_ne h2, updA_ne h2, updA_ne h1]
theorem updA_self {m : AHp} {a : Addr} {o : AO} (h : m a = some o) : updA m a o = m := by
  funext b
  by_cases hb : b = a
  · subst hb; rw [updA_same, h]
  · rw [updA_ne hb]
inductive Trm where
  | num (i : Int) | wd (w : Str) | nil | unk (n : Int) | pair (a b : Trm)
def Trm.av : Trm → AV
  | .num i => .int i
  | .wd w => .str w
  | .nil => .tup []
  | .unk n => .tup [.str "?", .int n]
  | .pair a b => .tup [a.av, b.av]
def Trm.ok (A U : Int → Prop) : Trm → Prop
  | .num i => A i
  | .wd w => Word w
  | .nil => True
  | .unk n => U n
  | .pair a b => a.ok A U ∧ b.ok A U
def Trm.deep : Trm → Nat
  | .pair a b => max a.deep b.deep + 1
  | _ => 1
def Trm.pairs : Trm → Nat
  | .pair a b => a.pairs + b.pairs + 1
  | _ => 0
def Trm.tip : Trm → Prop
  | .pair _ _ => False
  | _ => True
theorem Trm.tip_deep {t : Trm} (h : t.tip) : t.deep = 1 ∧ t.pairs = 0 := by
  cases t <;> first | exact ⟨rfl, rfl⟩ | exact h.elim
theorem Trm.ok_imp {A A' U U' : Int → Prop} (ha : ∀ i, A i → A' i) (hu : ∀ i, U i → U' i) : ∀ {t : Trm}, t.ok A U → t.ok A' U'
  | .num i, h => ha i h
  | .wd _, h => h
  | .nil, h => h
  | .unk n, h => hu n h
  | .pair _ _, h => ⟨ok_imp ha hu h.1, ok_imp ha hu h.2⟩
theorem Trm.deep_pos (t : Trm) : 1 ≤ t.deep := by
  cases t <;> simp only [Trm.deep] <;> omega
def Far (i : Int) : Prop := -1000000000000 ≤ i ∧ i ≤ 1000000000000

def Trm.tips : Trm → List Trm
  | .pair a b => a.tips ++ b.tips
  | t => [t]
def Trm.size : Trm → Nat
  | .pair a b => a.size + b.size + 1
  | _ => 1
theorem Trm.size_pairs : ∀ t : Trm, t.size = 2 * t.pairs + 1
  | .num _ => rfl
  | .wd _ => rfl
  | .nil => rfl
  | .unk _ => rfl
  | .pair a b => by simp only [Trm.size, Trm.pairs, Trm.size_pairs a, Trm.size_pairs b]; omega
theorem Trm.tips_len : ∀ t : Trm, t.tips.length = t.pairs + 1
  | .num _ => rfl
  | .wd _ => rfl
  | .nil => rfl
  | .unk _ => rfl
  | .pair a b => by simp only [Trm.tips, Trm.pairs, List.length_append, Trm.tips_len a, Trm.tips_len b]; omega
theorem Trm.tips_ok {A U : Int → Prop} : ∀ {t : Trm}, t.ok A U → ∀ x ∈ t.tips, x.ok A U ∧ x.tip
  | .num _, h, x, hx => by simp only [Trm.tips, List.mem_singleton] at hx; subst hx; exact ⟨h, trivial⟩
  | .wd _, h, x, hx => by simp only [Trm.tips, List.mem_singleton] at hx; subst hx; exact ⟨h, trivial⟩
  | .nil, h, x, hx => by simp only [Trm.tips, List.mem_singleton] at hx; subst hx; exact ⟨h, trivial⟩
  | .unk _, h, x, hx => by simp only [Trm.tips, List.mem_singleton] at hx; subst hx; exact ⟨h, trivial⟩
  | .pair a b, h, x, hx => by
    simp only [Trm.tips, List.mem_append] at hx
    rcases hx with hx | hx
    · exact Trm.tips_ok h.1 x hx
    · exact Trm.tips_ok h.2 x hx
def Trm.isTup : Trm → Bool
  | .num _ => false
  | .wd _ => false
  | _ => true
def Trm.isNil : Trm → Bool
  | .nil => true
  | _ => false
section
variable {A U : Int → Prop} {m : AHp} {q : AK}
theorem mark_ok : PyData.strOk (Str.ofString "?") = true := by decide +kernel
theorem pureVs_two (x y : AV) : pureVs [x, y] = (pureV x && pureV y) := by simp only [pureVs, Bool.and_true]
theorem Trm.pure : ∀ t : Trm, pureV t.av = true
  | .num _ => by simp only [Trm.av, pureV]
  | .wd _ => by simp only [Trm.av, pureV]
  | .nil => by simp only [Trm.av, pureV, pureVs]
  | .unk _ => by simp only [Trm.av, pureV, pureVs, Bool.and_true]
  | .pair a b => by simp only [Trm.av, pureV, pureVs, Bool.and_true, Trm.pure a, Trm.pure b]
theorem Trm.lay : ∀ {t : Trm}, t.ok A U → (toD t.av).canLay0 = true
  | .num _, _ => by simp only [Trm.av, toD, PyData.canLay0]
  | .wd _, h => by
    simp only [Trm.av, toD, PyData.canLay0]
    exact Word.ok h
  | .nil, _ => by simp only [Trm.av, toD, toDs, PyData.canLay0, PyData.canLayAll0]
  | .unk _, _ => by
    simp only [Trm.av, toD, toDs, PyData.canLay0, PyData.canLayAll0, Bool.and_true]
    exact mark_ok
  | .pair a b, h => by simp only [Trm.av, toD, toDs, PyData.canLay0, PyData.canLayAll0, Bool.and_true, Trm.lay h.1, Trm.lay h.2]
theorem Trm.can {t : Trm} (h : t.ok A U) : canA t.av = true := by
  unfold canA
  rw [t.pure, Trm.lay h]
  rfl
theorem isi_tm (t : Trm) : bIsi [t.av, .ty "tuple"] m q = q (.bl t.isTup) m := by
  have e : (tyNames.contains "tuple" = true ∧ "tuple" ≠ "NoneType") = True := eq_true (by decide)
  cases t <;> (simp only [Trm.av, bIsi, tyA, Trm.isTup, e, true_and]; rfl)
theorem isi_t {xs : List AV} : bIsi [.tup xs, .ty "tuple"] m q = q (.bl true) m := by
  have e : (tyNames.contains "tuple" = true ∧ "tuple" ≠ "NoneType") = True := eq_true (by decide)
  simp only [bIsi, tyA, e, true_and]
  rfl
theorem isi_i {i : Int} : bIsi [.int i, .ty "tuple"] m q = q (.bl false) m := isi_tm (.num i)
theorem isi_s {i : Str} : bIsi [.str i, .ty "tuple"] m q = q (.bl false) m := isi_tm (.wd i)
theorem eqA_ts {xs : List AV} {z : Str} : eqA (.tup xs) (.str z) = false := by simp only [eqA, toD, PyData.eqv]
theorem eqA_is {i : Int} {z : Str} : eqA (.int i) (.str z) = false := by simp only [eqA, toD, PyData.eqv]
theorem eqA_t0 {x : AV} {xs : List AV} : eqA (.tup (x :: xs)) (.tup []) = false := by simp only [eqA, toD, toDs, PyData.eqv, PyData.eqvAll]
theorem eqA_00 : eqA (.tup []) (.tup []) = true := by simp only [eqA, toD, toDs, PyData.eqv, PyData.eqvAll]
theorem and_four {a b c : Prop} {d : Prop} (ha : a) (hb : b) (hc : c) : (a ∧ b ∧ c ∧ d) = d := propext ⟨fun h => h.2.2.2, fun h => ⟨ha, hb, hc, h⟩⟩
theorem can_str {z : Str} (h : PyData.strOk z = true) : canA (.str z) = true := by
  unfold canA
  simp only [pureV, toD, PyData.canLay0, h, Bool.and_true]
theorem can_nil : canA (.tup []) = true := by decide
theorem mark_tm {t : Trm} (h : t.ok A U) (f : Bool → Bool) : bEqB f t.av (.str "?") m q = q (.bl (f false)) m := by
  have c := Trm.can h
  have c2 : canA (.str "?") = true := by unfold canA; simp only [pureV, toD, PyData.canLay0, mark_ok, Bool.and_true]
  have d : ∀ x, min (PyData.depth x) (toD (.str "?")).depth ≤ 100 := fun x => by
    simp only [toD, PyData.depth]
    omega
  cases t with
  | wd w =>
    show q (.bl (f (decide (w = "?")))) m = _
    rw [decide_eq_false (Word.ne h)]
  | num i =>
    show (canA (.int i) = true ∧ canA (.str "?") = true ∧ _ ∧ q (.bl (f (eqA (.int i) (.str "?")))) m) = _
    exact (and_four c c2 (d _)).trans (by rw [eqA_is])
  | nil =>
    show (canA _ = true ∧ canA (.str "?") = true ∧ _ ∧ q (.bl (f (eqA (.tup []) (.str "?")))) m) = _
    exact (and_four c c2 (d _)).trans (by rw [eqA_ts])
  | unk n =>
    show (canA _ = true ∧ canA (.str "?") = true ∧ _ ∧ q (.bl (f (eqA (.tup _) (.str "?")))) m) = _
    exact (and_four c c2 (d _)).trans (by rw [eqA_ts])
  | pair a b =>
    show (canA _ = true ∧ canA (.str "?") = true ∧ _ ∧ q (.bl (f (eqA (.tup _) (.str "?")))) m) = _
    exact (and_four c c2 (d _)).trans (by rw [eqA_ts])
theorem nil_tm {t : Trm} (h : t.ok A U) (ht : t.isTup = true) (f : Bool → Bool) : bEqB f t.av (.tup []) m q = q (.bl (f t.isNil)) m := by
  have c := Trm.can h
  have d : ∀ x, min (PyData.depth x) (toD (.tup [])).depth ≤ 100 := fun x => by
    simp only [toD, toDs, PyData.depth, PyData.depthAll]
    omega
  cases t with
  | wd w => cases ht
  | num i => cases ht
  | nil =>
    show (canA _ = true ∧ canA (.tup []) = true ∧ _ ∧ q (.bl (f (eqA (.tup []) (.tup [])))) m) = _
    exact (and_four c can_nil (d _)).trans (by rw [eqA_00]; rfl)
  | unk n =>
    show (canA _ = true ∧ canA (.tup []) = true ∧ _ ∧ q (.bl (f (eqA (.tup _) (.tup [])))) m) = _
    exact (and_four c can_nil (d _)).trans (by rw [eqA_t0]; rfl)
  | pair a b =>
    show (canA _ = true ∧ canA (.tup []) = true ∧ _ ∧ q (.bl (f (eqA (.tup _) (.tup [])))) m) = _
    exact (and_four c can_nil (d _)).trans (by rw [eqA_t0]; rfl)
theorem nil_t {x : AV} {xs : List AV} (c : canA (.tup (x :: xs)) = true) (f : Bool → Bool) : bEqB f (.tup (x :: xs)) (.tup []) m q = q (.bl (f false)) m := by
  have d : ∀ x, min (PyData.depth x) (toD (.tup [])).depth ≤ 100 := fun x => by
    simp only [toD, toDs, PyData.depth, PyData.depthAll]
    omega
  show (canA _ = true ∧ canA (.tup []) = true ∧ _ ∧ q (.bl (f (eqA (.tup _) (.tup [])))) m) = _
  exact (and_four c can_nil (d _)).trans (by rw [eqA_t0])
theorem nil_0 (f : Bool → Bool) : bEqB f (.tup []) (.tup []) m q = q (.bl (f true)) m := nil_tm (A := fun _ => True) (U := fun _ => True) (t := .nil) trivial rfl f
theorem bq_str (f : Bool → Bool) {a b : Str} : bEqB f (.str a) (.str b) m q = q (.bl (f (decide (a = b)))) m := rfl
theorem bq_int (f : Bool → Bool) {a b : Int} : bEqB f (.int a) (.int b) m q = q (.bl (f (decide (a = b)))) m := rfl
theorem bq_bl (f : Bool → Bool) {a b : Bool} : bEqB f (.bl a) (.bl b) m q = q (.bl (f (decide (a = b)))) m := rfl
end
end Ab

namespace Ab
open PySem PySem.Spec PyProof.Rows L2
theorem keyOf_kA (k : Key) : keyOf (kA k) = some k := by cases k <;> rfl
def putFA (f : AV → Option (Key × AV)) (acc : List (Key × AV)) (x : AV) : List (Key × AV) := match f x with
  | some (k, z) => putA acc k z
  | none => acc
theorem putA_len (acc : List (Key × AV)) (k : Key) (z : AV) : (putA acc k z).length ≤ acc.length + 1 := by
  unfold putA
  split
  · rw [List.length_map]; omega
  · rw [List.length_append]; exact Nat.le_refl _
theorem putFA_len (f : AV → Option (Key × AV)) (acc : List (Key × AV)) (x : AV) : (putFA f acc x).length ≤ acc.length + 1 := by
  unfold putFA
  split
  · exact putA_len _ _ _
  · omega
section
variable {K : PySem.W.Frag} {m : AHp}
theorem dc_fn {g : ATG} {tt : ATT} {tk tv : ATE} {G : AHp → Prop} {D : Addr} {q : AK} {t : ASt} (f : AV → Option (Key × AV)) (hG : ∀ acc, G (updA m D (.dK acc))) : ∀ (xs : List AV) (acc : List (Key × AV)),
    (∀ x ∈ xs, ∀ acc' : List (Key × AV), ∀ k : Option (AV × AV) → AHp → Prop, k ((f x).map fun p => (kA p.1, p.2)) (updA m D (.dK acc')) → g x t (updA m D (.dK acc')) fun a2 m2 => tt a2 m2 fun b m3 => if b = true then tk a2 m3 fun y m4 => tv a2 m4 fun z m5 => Fg K m5 (k (some (y, z))) else Fg K m3 (k none)) →
    acc.length + xs.length < sizeLine → q (.ref D) (updA m D (.dK (xs.foldl (putFA f) acc))) → dcL K g tt tk tv G D q t xs (updA m D (.dK acc))
  | [], acc, _, _, h => ⟨hG acc, h⟩
  | x :: xs, acc, st, hl, h => by
    have hl : acc.length + (xs.length + 1) < sizeLine := hl
    refine ⟨hG acc, ?_⟩
    refine st x List.mem_cons_self acc (fun o m6 => match o with
      | some (y, z) => match keyOf y, m6 D with
        | some k, some (.dK acc) => acc.length < sizeLine ∧ dcL K g tt tk tv G D q t xs (updA m6 D (.dK (putA acc k z)))
        | _, _ => False
      | none => dcL K g tt tk tv G D q t xs m6) ?_
    rw [List.foldl_cons] at h
    have pl := putFA_len f acc x
    cases e : f x with
    | none =>
      have e2 : putFA f acc x = acc := by unfold putFA; rw [e]
      rw [e2] at h
      exact dc_fn f hG xs acc (fun y hy => st y (List.mem_cons_of_mem _ hy)) (by omega) h
    | some p =>
      obtain ⟨k, z⟩ := p
      have e2 : putFA f acc x = putA acc k z := by unfold putFA; rw [e]
      rw [e2] at h pl
      simp only [Option.map_some, keyOf_kA, updA_same, updA_twice]
      exact ⟨by omega, dc_fn f hG xs (putA acc k z) (fun y hy => st y (List.mem_cons_of_mem _ hy)) (by omega) h⟩
end

def ins (l : List Int) (n : Int) : List Int := if n ∈ l then l else l ++ [n]
def once (l : List Int) : List Int := l.foldl ins []
theorem foldl_snoc {α β : Type} (f : β → α → β) (b : β) (l : List α) (x : α) : (l ++ [x]).foldl f b = f (l.foldl f b) x := by rw [List.foldl_append]; rfl
theorem snocInd {α : Type} {P : List α → Prop} (h0 : P []) (h1 : ∀ l x, P l → P (l ++ [x])) (l : List α) : P l := by
  have h : ∀ r : List α, P r.reverse := by
    intro r
    induction r with
    | nil => exact h0
    | cons x r ih => rw [List.reverse_cons]; exact h1 _ _ ih
  have := h l.reverse
  rwa [List.reverse_reverse] at this
theorem once_mem (x : Int) (l : List Int) : x ∈ once l ↔ x ∈ l := by
  revert x
  induction l using snocInd with
  | h0 => exact fun _ => Iff.rfl
  | h1 l y ih =>
    intro x
    unfold once at ih ⊢
    rw [foldl_snoc, List.mem_append, List.mem_singleton]
    generalize l.foldl ins [] = F at ih ⊢
    unfold ins
    split
    · rename_i h
      rw [ih]
      exact ⟨.inl, fun z => z.elim id fun e => by rw [e]; exact (ih y).mp h⟩
    · rw [List.mem_append, List.mem_singleton, ih]
theorem once_from (acc l : List Int) : l.foldl ins acc = acc ++ (once l).filter fun n => !decide (n ∈ acc) := by
  induction l using snocInd with
  | h0 => simp [once]
  | h1 l y ih =>
    have hy := once_mem y l
    unfold once at ih hy ⊢
    rw [foldl_snoc, foldl_snoc, ih]
    generalize l.foldl ins [] = F at hy ⊢
    unfold ins
    by_cases h1 : y ∈ F
    · rw [if_pos h1]
      by_cases h2 : y ∈ acc
      · rw [if_pos (List.mem_append.mpr (.inl h2))]
      · rw [if_pos (List.mem_append.mpr (.inr (List.mem_filter.mpr ⟨h1, by simpa using h2⟩)))]
    · rw [if_neg h1, List.filter_append]
      by_cases h2 : y ∈ acc
      · rw [if_pos (List.mem_append.mpr (.inl h2))]
        simp [h2]
      · rw [if_neg (fun z => (List.mem_append.mp z).elim h2 fun z => h1 (List.mem_filter.mp z).1)]
        simp [h2]
theorem once_append (a b : List Int) : once (a ++ b) = once a ++ (once b).filter fun n => !decide (n ∈ once a) := by
  show (a ++ b).foldl ins [] = _
  rw [List.foldl_append]
  exact once_from (once a) b
theorem once_filter (p : Int → Bool) (l : List Int) : once (l.filter p) = (once l).filter p := by
  induction l using snocInd with
  | h0 => rfl
  | h1 l y ih =>
    have hy := once_mem y l
    rw [List.filter_append]
    unfold once at ih hy ⊢
    rw [List.foldl_append, ih, foldl_snoc]
    generalize l.foldl ins [] = F at hy ⊢
    cases hp : p y with
    | false =>
      rw [List.filter_cons_of_neg (by simp [hp]), List.filter_nil]
      unfold ins
      split
      · rfl
      · rw [List.filter_append, List.filter_cons_of_neg (by simp [hp]), List.filter_nil, List.append_nil]; rfl
    | true =>
      rw [List.filter_cons_of_pos hp, List.filter_nil]
      show ins (F.filter p) y = _
      unfold ins
      by_cases h1 : y ∈ F
      · rw [if_pos h1, if_pos (List.mem_filter.mpr ⟨h1, hp⟩)]
      · rw [if_neg h1, if_neg (fun z => h1 (List.mem_filter.mp z).1), List.filter_append, List.filter_cons_of_pos hp, List.filter_nil]
theorem once_len (l : List Int) : (once l).length ≤ l.length := by
  induction l using snocInd with
  | h0 => exact Nat.le_refl _
  | h1 l y ih =>
    unfold once at ih ⊢
    rw [foldl_snoc, List.length_append, List.length_singleton]
    generalize l.foldl ins [] = F at ih ⊢
    unfold ins
    split
    · omega
    · rw [List.length_append, List.length_singleton]; omega
def Trm.nums : Trm → List Int
  | .unk n => [n]
  | .pair a b => a.nums ++ b.nums
  | _ => []
def Trm.unks (t : Trm) : List Int := once t.nums
def Trm.sub (n : Int) (w : Str) : Trm → Trm
  | .unk k => if k = n then .wd w else .unk k
  | .pair a b => .pair (a.sub n w) (b.sub n w)
  | t => t
theorem Trm.sub_nums (n : Int) (w : Str) : ∀ t : Trm, (t.sub n w).nums = t.nums.filter fun k => !decide (k = n)
  | .num _ => rfl
  | .wd _ => rfl
  | .nil => rfl
  | .unk k => by
    unfold Trm.sub
    by_cases h : k = n
    · rw [if_pos h]; simp [Trm.nums, h]
    · rw [if_neg h]; simp [Trm.nums, h]
  | .pair a b => by simp only [Trm.sub, Trm.nums, Trm.sub_nums n w a, Trm.sub_nums n w b, List.filter_append]
theorem Trm.sub_unks (n : Int) (w : Str) (t : Trm) : (t.sub n w).unks = t.unks.filter fun k => !decide (k = n) := by
  unfold Trm.unks
  rw [Trm.sub_nums, once_filter]
theorem Trm.sub_ok {A U : Int → Prop} {n : Int} {w : Str} (hw : Word w) : ∀ {t : Trm}, t.ok A U → (t.sub n w).ok A U
  | .num _, h => h
  | .wd _, h => h
  | .nil, h => h
  | .unk k, h => by
    unfold Trm.sub
    split
    · exact hw
    · exact h
  | .pair _ _, h => ⟨Trm.sub_ok hw h.1, Trm.sub_ok hw h.2⟩
theorem Trm.sub_deep {n : Int} {w : Str} : ∀ t : Trm, (t.sub n w).deep = t.deep
  | .num _ => rfl
  | .wd _ => rfl
  | .nil => rfl
  | .unk k => by unfold Trm.sub; split <;> rfl
  | .pair a b => by simp only [Trm.sub, Trm.deep, Trm.sub_deep a, Trm.sub_deep b]
theorem Trm.sub_pairs {n : Int} {w : Str} : ∀ t : Trm, (t.sub n w).pairs = t.pairs
  | .num _ => rfl
  | .wd _ => rfl
  | .nil => rfl
  | .unk k => by unfold Trm.sub; split <;> rfl
  | .pair a b => by simp only [Trm.sub, Trm.pairs, Trm.sub_pairs a, Trm.sub_pairs b]
theorem Trm.nums_ok {A U : Int → Prop} : ∀ {t : Trm}, t.ok A U → ∀ x ∈ t.nums, U x
  | .num _, _, x, hx => by simp [Trm.nums] at hx
  | .wd _, _, x, hx => by simp [Trm.nums] at hx
  | .nil, _, x, hx => by simp [Trm.nums] at hx
  | .unk k, h, x, hx => by simp only [Trm.nums, List.mem_singleton] at hx; subst hx; exact h
  | .pair a b, h, x, hx => by
    simp only [Trm.nums, List.mem_append] at hx
    exact hx.elim (Trm.nums_ok h.1 x) (Trm.nums_ok h.2 x)
theorem Trm.nums_len : ∀ t : Trm, t.nums.length ≤ t.pairs + 1
  | .num _ => Nat.zero_le _
  | .wd _ => Nat.zero_le _
  | .nil => Nat.zero_le _
  | .unk _ => Nat.le_refl _
  | .pair a b => by
    have := Trm.nums_len a
    have := Trm.nums_len b
    simp only [Trm.nums, Trm.pairs, List.length_append]
    omega
def Trm.num? : Trm → Option Int
  | .unk n => some n
  | _ => none
theorem Trm.tips_nums : ∀ t : Trm, t.tips.filterMap Trm.num? = t.nums
  | .num _ => rfl
  | .wd _ => rfl
  | .nil => rfl
  | .unk _ => rfl
  | .pair a b => by simp only [Trm.tips, Trm.nums, List.filterMap_append, Trm.tips_nums a, Trm.tips_nums b]
theorem pure_ints : ∀ l : List Int, pureVs (l.map AV.int) = true
  | [] => by simp [pureVs]
  | n :: l => by simp [pureVs, pureV, pure_ints l]
theorem can_ints : ∀ l : List Int, canAs (l.map AV.int) = true := fun l => by
  have h : ∀ l : List Int, PyData.canLayAll0 (toDs (l.map AV.int)) = true := by
    intro l
    induction l with
    | nil => simp [toDs, PyData.canLayAll0]
    | cons n l ih => simp [toDs, toD, PyData.canLayAll0, PyData.canLay0, ih]
  unfold canAs
  rw [pure_ints, h]
  rfl
theorem can_i (n : Int) : canA (.int n) = true := Trm.can (A := fun _ => True) (U := fun _ => True) (t := .num n) trivial
theorem can_tup {xs : List AV} (h : canAs xs = true) : canA (.tup xs) = true := by
  unfold canAs at h
  unfold canA
  simp only [pureV, toD, PyData.canLay0]
  exact h
theorem depth_ints : ∀ l : List Int, PyData.depthAll (toDs (l.map AV.int)) ≤ 1
  | [] => by simp [toDs, PyData.depthAll]
  | n :: l => by
    have := depth_ints l
    simp only [List.map_cons, toDs, toD, PyData.depthAll, PyData.depth]
    omega
theorem eqv_ints : ∀ l : List Int, PyData.eqvAll (toDs (l.map AV.int)) (toDs (l.map AV.int)) = true
  | [] => by simp [toDs, PyData.eqvAll]
  | n :: l => by simp [toDs, toD, PyData.eqvAll, PyData.eqv, eqv_ints l]
section
variable {m : AHp} {q : AK}
theorem bq_nil_ints (l : List Int) (f : Bool → Bool) : bEqB f (.tup (l.map AV.int)) (.tup []) m q = q (.bl (f l.isEmpty)) m := by
  cases l with
  | nil => exact nil_0 f
  | cons n l => exact nil_t (can_tup (can_ints (n :: l))) f
theorem bq_ints {a b : Addr} {l : List Int} (ha : m a = some (.lst (l.map AV.int))) (hb : m b = some (.lst (l.map AV.int))) (f : Bool → Bool) : bEqB f (.ref a) (.ref b) m q = q (.bl (f true)) m := by
  show (match m a, m b with | some (.lst xs), some (.lst ys) => (if xs.length = ys.length then canAs xs = true ∧ canAs ys = true ∧ min (PyData.depthAll (toDs xs)) (PyData.depthAll (toDs ys)) ≤ 100 ∧ q (.bl (f (PyData.eqvAll (toDs xs) (toDs ys)))) m else q (.bl (f false)) m) | _, _ => False) = _
  have d := depth_ints l
  rw [ha, hb]
  simp only [if_true]
  exact (and_four (can_ints l) (can_ints l) (by omega)).trans (by rw [eqv_ints])
theorem in_ints {p : Addr} {l : List Int} {n : Int} (h : m p = some (.lst (l.map AV.int))) (f : Bool → Bool) : bInB f (.int n) (.ref p) m q = q (.bl (f (decide (n ∈ l)))) m := by
  show (match m p with
    | some (.lst xs) => canA (.int n) = true ∧ canAs xs = true ∧ min (PyData.depthAll (toDs xs)) (toD (.int n)).depth ≤ 100 ∧ q (.bl (f (xs.any fun z => eqA z (.int n)))) m
    | some (.dK kvs) => match keyOf (.int n) with
      | some k => q (.bl (f (getK kvs k).isSome)) m
      | none => False
    | _ => False) = _
  have d := depth_ints l
  rw [h]
  have e : ((l.map AV.int).any fun z => eqA z (.int n)) = decide (n ∈ l) := by
    rw [List.any_map, Bool.eq_iff_iff, List.any_eq_true, decide_eq_true_iff]
    constructor
    · rintro ⟨x, hx, h⟩
      have h : eqA (.int x) (.int n) = true := h
      rw [eqA_int] at h
      exact of_decide_eq_true h ▸ hx
    · exact fun h => ⟨n, h, by show eqA (.int n) (.int n) = true; rw [eqA_int]; exact decide_eq_true rfl⟩
  exact (and_four (can_i n) (can_ints l) (by omega)).trans (by rw [e])
end
def keepF (p : Int → Bool) : AV → Option AV
  | .int n => if p n = true then some (.int n) else none
  | x => some x
theorem keepF_map (p : Int → Bool) : ∀ l : List Int, (l.map AV.int).filterMap (keepF p) = (l.filter p).map AV.int
  | [] => rfl
  | n :: l => by
    cases h : p n with
    | true => rw [List.map_cons, List.filterMap_cons_some (b := .int n) (show (if p n = true then some (AV.int n) else none) = some (.int n) from if_pos h), List.filter_cons_of_pos h, keepF_map p l]; rfl
    | false => rw [List.map_cons, List.filterMap_cons_none (show keepF p (.int n) = none from if_neg (by rw [h]; exact Bool.false_ne_true)), List.filter_cons_of_neg (by rw [h]; exact Bool.false_ne_true), keepF_map p l]
end Ab

namespace Ab
open PySem PySem.Spec PyProof.Rows L2
theorem small_text : ∀ n : Nat, n < 1000 → (PyData.int (n : Int)).shown.length ≤ 3 := by decide +kernel
theorem tuple_len {ts : List Str} {b : Nat} (h : ∀ t ∈ ts, t.length ≤ b) : (tupleText ts).length ≤ 3 + ts.length * (b + 2) := by
  have e : ∀ ts : List Str, (∀ t ∈ ts, t.length ≤ b) → (ts.map (·.length)).sum ≤ ts.length * b := by
    intro ts
    induction ts with
    | nil => intro _; simp
    | cons t ts ih =>
      intro h
      have h1 := h t List.mem_cons_self
      have h2 := ih fun x hx => h x (List.mem_cons_of_mem _ hx)
      rw [List.map_cons, List.sum_cons, List.length_cons, Nat.succ_mul]
      omega
  have h1 := StrLaws.join_length_le ", " ts
  have h2 := e ts h
  have e2 : (Str.ofString ", ").length = 2 := rfl
  rw [e2] at h1
  unfold tupleText
  have e3 : (Str.ofString "(").length = 1 := rfl
  have e4 : ∀ c : Bool, (Str.ofString (if c = true then ",)" else ")")).length ≤ 2 := by
    intro c
    cases c <;> decide
  have e5 := e4 (ts.length == 1)
  rw [len_add, len_add, e3, Nat.mul_add]
  omega
theorem shown_ints : ∀ l : List Int, (∀ n ∈ l, 0 ≤ n ∧ n < 1000) → ∀ t ∈ PyData.shownAll (toDs (l.map AV.int)), t.length ≤ 3
  | [], _, t, ht => by simp [toDs, PyData.shownAll] at ht
  | n :: l, h, t, ht => by
    simp only [List.map_cons, toDs, toD, PyData.shownAll, List.mem_cons] at ht
    rcases ht with rfl | ht
    · have := h n List.mem_cons_self
      have e : n = ((n.toNat : Nat) : Int) := by omega
      rw [e]
      exact small_text _ (by omega)
    · exact shown_ints l (fun x hx => h x (List.mem_cons_of_mem _ hx)) t ht
theorem shownAll_len : ∀ l : List AV, (PyData.shownAll (toDs l)).length = l.length
  | [] => by simp [toDs, PyData.shownAll]
  | x :: l => by simp [toDs, PyData.shownAll, shownAll_len l]
theorem showable_ints : ∀ l : List Int, (∀ n ∈ l, 0 ≤ n ∧ n < 1000) → PyData.showableAll (toDs (l.map AV.int)) = true
  | [], _ => by simp [toDs, PyData.showableAll]
  | n :: l, h => by
    have h1 := h n List.mem_cons_self
    have h2 : n.natAbs.log2 < 1920 := (Nat.lt_of_le_of_lt (Nat.log2_le_self _) (by omega))
    simp [toDs, toD, PyData.showableAll, PyData.showable, h2, showable_ints l (fun x hx => h x (List.mem_cons_of_mem _ hx))]
section
variable {m : AHp} {q : AK}
theorem repr_ints {l : List Int} (h : ∀ n ∈ l, 0 ≤ n ∧ n < 1000) (hl : l.length ≤ 100000) : bRepr [.tup (l.map AV.int)] m q = q (.str (toD (.tup (l.map AV.int))).shown) m := by
  show (pureV _ = true ∧ (toD (.tup (l.map AV.int))).showable = true ∧ (toD (.tup (l.map AV.int))).depth ≤ 150 ∧ (toD (.tup (l.map AV.int))).shown.length ≤ sizeLine ∧ _) = _
  have d := depth_ints l
  have z := tuple_len (shown_ints l h)
  rw [shownAll_len, List.length_map] at z
  refine propext ⟨fun h => h.2.2.2.2, fun k => ⟨?_, ?_, ?_, ?_, k⟩⟩
  · simp only [pureV, pure_ints]
  · simp only [toD, PyData.showable, showable_ints l h]
  · simp only [toD, PyData.depth]; omega
  · simp only [toD, PyData.shown]
    exact (show _ ≤ 16777216 by omega)
theorem repr_bl {b : Bool} : bRepr [.bl b] m q = q (.str (toD (.bl b)).shown) m := by
  show (pureV _ = true ∧ (toD (.bl b)).showable = true ∧ (toD (.bl b)).depth ≤ 150 ∧ (toD (.bl b)).shown.length ≤ sizeLine ∧ _) = _
  refine propext ⟨fun h => h.2.2.2.2, fun k => ⟨?_, ?_, ?_, ?_, k⟩⟩
  · simp only [pureV]
  · simp only [toD, PyData.showable]
  · simp only [toD, PyData.depth]; omega
  · cases b <;> decide
end
end Ab

namespace Ab
open PySem PySem.Spec PyProof.Rows L2
mutual
def fine : AV → Bool
  | .non => true
  | .bl _ => true
  | .int i => decide (i.natAbs < 10 ^ 40)
  | .str x => PyData.strOk x
  | .tup xs => fines xs
  | .ref _ => false
  | .ty _ => false
  | .scr _ => false
def fines : List AV → Bool
  | [] => true
  | x :: xs => fine x && fines xs
end
theorem log40 {n k : Nat} (h : n < 10 ^ 40) (hk : 133 ≤ k) : n.log2 < k := by
  by_cases h0 : n = 0
  · subst h0
    have : Nat.log2 0 = 0 := by decide
    omega
  · refine (Nat.log2_lt h0).mpr (Nat.lt_of_lt_of_le h (Nat.le_trans (by decide +kernel : 10 ^ 40 ≤ 2 ^ 133) (Nat.pow_le_pow_right (by decide) hk)))
mutual
theorem fine_pure : ∀ x : AV, fine x = true → pureV x = true
  | .non, _ => by simp only [pureV]
  | .bl _, _ => by simp only [pureV]
  | .int _, _ => by simp only [pureV]
  | .str _, _ => by simp only [pureV]
  | .tup xs, h => by simp only [fine] at h; simp only [pureV]; exact fines_pure xs h
  | .ref _, h => by simp [fine] at h
  | .ty _, h => by simp [fine] at h
  | .scr _, h => by simp [fine] at h
theorem fines_pure : ∀ xs : List AV, fines xs = true → pureVs xs = true
  | [], _ => by simp only [pureVs]
  | x :: xs, h => by
    simp only [fines, Bool.and_eq_true] at h
    simp only [pureVs, Bool.and_eq_true]
    exact ⟨fine_pure x h.1, fines_pure xs h.2⟩
end
mutual
theorem fine_lay : ∀ x : AV, fine x = true → (toD x).canLay0 = true
  | .non, _ => by simp only [toD, PyData.canLay0]
  | .bl _, _ => by simp only [toD, PyData.canLay0]
  | .int _, _ => by simp only [toD, PyData.canLay0]
  | .str _, h => by simp only [fine] at h; simp only [toD, PyData.canLay0]; exact h
  | .tup xs, h => by simp only [fine] at h; simp only [toD, PyData.canLay0]; exact fines_lay xs h
  | .ref _, h => by simp [fine] at h
  | .ty _, h => by simp [fine] at h
  | .scr _, h => by simp [fine] at h
theorem fines_lay : ∀ xs : List AV, fines xs = true → PyData.canLayAll0 (toDs xs) = true
  | [], _ => by simp only [toDs, PyData.canLayAll0]
  | x :: xs, h => by
    simp only [fines, Bool.and_eq_true] at h
    simp only [toDs, PyData.canLayAll0, Bool.and_eq_true]
    exact ⟨fine_lay x h.1, fines_lay xs h.2⟩
end
mutual
theorem fine_show : ∀ x : AV, fine x = true → (toD x).showable = true
  | .non, _ => by simp only [toD, PyData.showable]
  | .bl _, _ => by simp only [toD, PyData.showable]
  | .int i, h => by
    simp only [fine, decide_eq_true_eq] at h
    simp only [toD, PyData.showable, decide_eq_true_eq]
    exact log40 h (by decide)
  | .str _, _ => by simp only [toD, PyData.showable]
  | .tup xs, h => by simp only [fine] at h; simp only [toD, PyData.showable]; exact fines_show xs h
  | .ref _, h => by simp [fine] at h
  | .ty _, h => by simp [fine] at h
  | .scr _, h => by simp [fine] at h
theorem fines_show : ∀ xs : List AV, fines xs = true → PyData.showableAll (toDs xs) = true
  | [], _ => by simp only [toDs, PyData.showableAll]
  | x :: xs, h => by
    simp only [fines, Bool.and_eq_true] at h
    simp only [toDs, PyData.showableAll, Bool.and_eq_true]
    exact ⟨fine_show x h.1, fines_show xs h.2⟩
end
mutual
theorem fine_short : ∀ x : AV, fine x = true → (toD x).leavesShort 41 = true
  | .non, _ => by simp only [toD, PyData.leavesShort]
  | .bl _, _ => by simp only [toD, PyData.leavesShort]
  | .int i, h => by
    simp only [fine, decide_eq_true_eq] at h
    simp only [toD, PyData.leavesShort, PyData.shown, decide_eq_true_eq]
    have e := int_text_length_le10 (k := 40) (by decide) h
    exact decide_eq_true (Nat.le_trans (Nat.le_of_eq (PySem.ofString_length _)) e)
  | .str x, h => by
    simp only [fine] at h
    simp only [toD, PyData.leavesShort]
    unfold PyData.strOk at h
    rw [← Array.all_toList, List.all_eq_true] at h
    rw [List.all_eq_true]
    intro c hc
    have := of_decide_eq_true (h c hc)
    exact decide_eq_true (Nat.lt_trans this (by decide))
  | .tup xs, h => by simp only [fine] at h; simp only [toD, PyData.leavesShort]; exact fines_short xs h
  | .ref _, h => by simp [fine] at h
  | .ty _, h => by simp [fine] at h
  | .scr _, h => by simp [fine] at h
theorem fines_short : ∀ xs : List AV, fines xs = true → PyData.leavesShortAll 41 (toDs xs) = true
  | [], _ => by simp only [toDs, PyData.leavesShortAll]
  | x :: xs, h => by
    simp only [fines, Bool.and_eq_true] at h
    simp only [toDs, PyData.leavesShortAll, Bool.and_eq_true]
    exact ⟨fine_short x h.1, fines_short xs h.2⟩
end
theorem fine_can {x : AV} (h : fine x = true) : canA x = true := by
  unfold canA
  rw [fine_pure x h, fine_lay x h]
  rfl
theorem fines_can {xs : List AV} (h : fines xs = true) : canAs xs = true := by
  unfold canAs
  rw [fines_pure xs h, fines_lay xs h]
  rfl
theorem shown_fine {x : AV} (h : fine x = true) (hw : (toD x).weight ≤ 390000) : (toD x).shown.length ≤ sizeLine := by
  have e := PyData.shown_le 41 (by decide) (toD x) (fine_short x h)
  exact (show _ ≤ 16777216 by omega)
theorem fines_all {xs : List AV} (h : ∀ x ∈ xs, fine x = true) : fines xs = true := by
  induction xs with
  | nil => simp only [fines]
  | cons x xs ih =>
    simp only [fines, Bool.and_eq_true]
    exact ⟨h x List.mem_cons_self, ih fun y hy => h y (List.mem_cons_of_mem _ hy)⟩
section
variable {m : AHp} {q : AK}
theorem repr_fine {x : AV} (h : fine x = true) (hd : (toD x).depth ≤ 150) (hw : (toD x).weight ≤ 390000) : bRepr [x] m q = q (.str (toD x).shown) m := by
  have main : (pureV x = true ∧ (toD x).showable = true ∧ (toD x).depth ≤ 150 ∧ (toD x).shown.length ≤ sizeLine ∧ q (.str (toD x).shown) m) = q (.str (toD x).shown) m :=
    propext ⟨fun z => z.2.2.2.2, fun z => ⟨fine_pure x h, fine_show x h, hd, shown_fine h hw, z⟩⟩
  cases x <;> first | exact main | (simp [fine] at h)
theorem eqA_self {x : AV} (h : fine x = true) : eqA x x = true := SeqAt.eqv_refl _ (fine_lay x h)
theorem bq_same {xs : List AV} (h : fine (.tup xs) = true) (hd : (toD (.tup xs)).depth ≤ 100) (f : Bool → Bool) : bEqB f (.tup xs) (.tup xs) m q = q (.bl (f true)) m := by
  show (canA _ = true ∧ canA _ = true ∧ _ ∧ q (.bl (f (eqA (.tup xs) (.tup xs)))) m) = _
  exact (and_four (fine_can h) (fine_can h) (by omega)).trans (by rw [eqA_self h])
end
def Small (i : Int) : Prop := i.natAbs < 10 ^ 40
theorem Far.small {i : Int} (h : Far i) : Small i := by
  unfold Far at h
  unfold Small
  have : i.natAbs ≤ 1000000000000 := by omega
  exact Nat.lt_of_le_of_lt this (by decide +kernel)
theorem Trm.fine {A U : Int → Prop} (ha : ∀ i, A i → Small i) (hu : ∀ i, U i → Small i) : ∀ {t : Trm}, t.ok A U → Ab.fine t.av = true
  | .num i, h => by simp only [Trm.av, Ab.fine, decide_eq_true_eq]; exact ha i h
  | .wd w, h => by simp only [Trm.av, Ab.fine]; exact Word.ok h
  | .nil, _ => by simp only [Trm.av, Ab.fine, fines]
  | .unk n, h => by
    simp only [Trm.av, Ab.fine, fines, Bool.and_true, Bool.and_eq_true, decide_eq_true_eq]
    exact ⟨mark_ok, hu n h⟩
  | .pair a b, h => by
    simp only [Trm.av, Ab.fine, fines, Bool.and_true, Bool.and_eq_true]
    exact ⟨Trm.fine ha hu h.1, Trm.fine ha hu h.2⟩
theorem Trm.depth_le : ∀ t : Trm, (toD t.av).depth ≤ t.deep
  | .num i => by simp [Trm.av, toD, PyData.depth]
  | .wd i => by simp [Trm.av, toD, PyData.depth]
  | .nil => by simp [Trm.av, toD, toDs, PyData.depth, PyData.depthAll, Trm.deep]
  | .unk i => by simp [Trm.av, toD, toDs, PyData.depth, PyData.depthAll, Trm.deep]
  | .pair a b => by
    have h1 := Trm.depth_le a
    have h2 := Trm.depth_le b
    simp only [Trm.av, toD, toDs, PyData.depth, PyData.depthAll, Trm.deep]
    omega
theorem int_weight {i : Int} (h : Small i) : (PyData.int i).weight ≤ 133 := by
  simp only [PyData.weight]
  split
  · omega
  · have := log40 (k := 133) h (by decide)
    omega
theorem Trm.weight_le {A U : Int → Prop} (ha : ∀ i, A i → Small i) (hu : ∀ i, U i → Small i) : ∀ {t : Trm}, t.ok A U → (toD t.av).weight ≤ 140 * t.size
  | .num i, h => by
    have := int_weight (ha i h)
    simp only [Trm.av, toD, Trm.size]
    omega
  | .wd w, h => by
    have h2 := h.2.1
    simp only [Trm.av, toD, PyData.weight, Trm.size]
    have : w.cps.size ≤ 8 := h2
    omega
  | .nil, _ => by simp [Trm.av, toD, toDs, PyData.weight, PyData.weightAll]
  | .unk n, h => by
    have := int_weight (hu n h)
    have e : (PyData.str (Str.ofString "?")).weight = 1 := by decide +kernel
    simp only [Trm.av, toD, toDs, PyData.weightAll, Trm.size]
    have e2 : (PyData.tuple [PyData.str (Str.ofString "?"), PyData.int n]).weight = (PyData.str (Str.ofString "?")).weight + 1 + ((PyData.int n).weight + 1 + 0) := by
      simp only [PyData.weight, PyData.weightAll]
    rw [e2, e]
    omega
  | .pair a b, h => by
    have h1 := Trm.weight_le ha hu h.1
    have h2 := Trm.weight_le ha hu h.2
    simp only [Trm.av, toD, toDs, PyData.weight, PyData.weightAll, Trm.size]
    omega
theorem terms_fine {A U : Int → Prop} (ha : ∀ i, A i → Small i) (hu : ∀ i, U i → Small i) {ts : List Trm} (h : ∀ t ∈ ts, t.ok A U) : Ab.fine (.tup (ts.map Trm.av)) = true := by
  simp only [Ab.fine]
  refine fines_all fun x hx => ?_
  obtain ⟨t, ht, rfl⟩ := List.mem_map.mp hx
  exact Trm.fine ha hu (h t ht)
theorem terms_depth {d : Nat} : ∀ {ts : List Trm}, (∀ t ∈ ts, t.deep ≤ d) → (toD (.tup (ts.map Trm.av))).depth ≤ d + 1 := by
  intro ts h
  simp only [toD, PyData.depth]
  have : PyData.depthAll (toDs (ts.map Trm.av)) ≤ d := by
    induction ts with
    | nil => simp [toDs, PyData.depthAll]
    | cons t ts ih =>
      have h1 := h t List.mem_cons_self
      have h2 := Trm.depth_le t
      have h3 := ih fun y hy => h y (List.mem_cons_of_mem _ hy)
      simp only [List.map_cons, toDs, PyData.depthAll]
      omega
  omega
theorem terms_weight {A U : Int → Prop} (ha : ∀ i, A i → Small i) (hu : ∀ i, U i → Small i) {p : Nat} {ts : List Trm} (h : ∀ t ∈ ts, t.ok A U) (hp : ∀ t ∈ ts, t.pairs ≤ p) : (toD (.tup (ts.map Trm.av))).weight ≤ ts.length * (280 * p + 141) := by
  simp only [toD, PyData.weight]
  induction ts with
  | nil => simp [toDs, PyData.weightAll]
  | cons t ts ih =>
    have h1 := Trm.weight_le ha hu (h t List.mem_cons_self)
    have h2 := hp t List.mem_cons_self
    have h3 := ih (fun y hy => h y (List.mem_cons_of_mem _ hy)) fun y hy => hp y (List.mem_cons_of_mem _ hy)
    have h4 := Trm.size_pairs t
    have h5 : (toD t.av).weight + 1 ≤ 280 * p + 141 := by omega
    generalize 280 * p + 141 = c at h3 h5 ⊢
    simp only [List.map_cons, toDs, PyData.weightAll, List.length_cons, Nat.succ_mul]
    omega
section
variable {K : PySem.W.Frag} {m : AHp}
theorem lc_fmT {β : Type} {g : ATG} {tt : ATT} {te : ATE} {G : AHp → Prop} {D : Addr} {q : AK} {t : ASt} (e : β → AV) (f : β → Option AV) (hG : ∀ acc, G (updA m D (.lst acc))) : ∀ (xs : List β) (acc : List AV),
    (∀ x ∈ xs, ∀ acc' : List AV, ∀ k : Option AV → AHp → Prop, k (f x) (updA m D (.lst acc')) → g (e x) t (updA m D (.lst acc')) fun a2 m2 => tt a2 m2 fun b m3 => if b = true then te a2 m3 fun y m4 => Fg K m4 (k (some y)) else Fg K m3 (k none)) →
    acc.length + xs.length < sizeLine → q (.ref D) (updA m D (.lst (acc ++ xs.filterMap f))) → lcL K g tt te G D q t (xs.map e) (updA m D (.lst acc))
  | [], acc, _, _, h => ⟨hG acc, by simpa using h⟩
  | x :: xs, acc, st, hl, h => by
    have hl : acc.length + (xs.length + 1) < sizeLine := hl
    refine ⟨hG acc, ?_⟩
    refine st x List.mem_cons_self acc (fun o m5 => match o with
      | some y => match m5 D with
        | some (.lst acc) => acc.length < sizeLine ∧ lcL K g tt te G D q t (xs.map e) (updA m5 D (.lst (acc ++ [y])))
        | _ => False
      | none => lcL K g tt te G D q t (xs.map e) m5) ?_
    cases o : f x with
    | none =>
      rw [List.filterMap_cons_none o] at h
      exact lc_fmT e f hG xs acc (fun y hy => st y (List.mem_cons_of_mem _ hy)) (by omega) h
    | some y =>
      rw [List.filterMap_cons_some o] at h
      simp only [updA_same, updA_twice]
      refine ⟨by omega, lc_fmT e f hG xs (acc ++ [y]) (fun y hy => st y (List.mem_cons_of_mem _ hy)) (by rw [List.length_append, List.length_singleton]; omega) ?_⟩
      simpa using h
theorem lc_mapT {β : Type} {g : ATG} {tt : ATT} {te : ATE} {G : AHp → Prop} {D : Addr} {q : AK} {t : ASt} (e f : β → AV) (hG : ∀ acc, G (updA m D (.lst acc))) (xs : List β)
    (st : ∀ x ∈ xs, ∀ acc' : List AV, ∀ k : Option AV → AHp → Prop, k (some (f x)) (updA m D (.lst acc')) → g (e x) t (updA m D (.lst acc')) fun a2 m2 => tt a2 m2 fun b m3 => if b = true then te a2 m3 fun y m4 => Fg K m4 (k (some y)) else Fg K m3 (k none))
    (hl : xs.length < sizeLine) (h : q (.ref D) (updA m D (.lst (xs.map f)))) : lcL K g tt te G D q t (xs.map e) (updA m D (.lst [])) := by
  refine lc_fmT e (fun x => some (f x)) hG xs [] st (by simpa using hl) ?_
  rw [List.filterMap_eq_map']
  simpa using h
theorem dc2_fn {g : ATG} {tt : ATT} {wj : ATI} {h : ATG} {tu : ATT} {tk tv : ATE} {us : List Nat} {G : AHp → Prop} {D : Addr} {q : AK} {t : ASt} {β : Type} (e : β → AV) (step : List (Key × AV) → β → List (Key × AV)) (P : List (Key × AV) → List β → Prop) (hG : ∀ acc, G (updA m D (.dK acc))) : ∀ (xs : List β) (acc : List (Key × AV)),
    (∀ x r acc', P acc' (x :: r) → P (step acc' x) r) →
    (∀ x r, ∀ acc' : List (Key × AV), P acc' (x :: r) → ∀ k : AHp → Prop, k (updA m D (.dK (step acc' x))) → g (e x) t (updA m D (.dK acc')) fun a2 m2 => tt a2 m2 fun b m3 => if b = true then wj a2 m3 fun ys G2 m4 => dcL K h tu tk tv G2 D (fun _ m5 => Fg K m5 k) (wipeA a2 us) ys m4 else Fg K m3 k) →
    P acc xs → (∀ acc', P acc' [] → acc' = xs.foldl step acc → q (.ref D) (updA m D (.dK acc'))) → dc2L K g tt wj h tu tk tv us G D q t (xs.map e) (updA m D (.dK acc))
  | [], acc, _, _, hp, hq => ⟨hG acc, hq acc hp rfl⟩
  | x :: xs, acc, hP, st, hp, hq => by
    refine ⟨hG acc, ?_⟩
    refine st x xs acc hp (fun m6 => dc2L K g tt wj h tu tk tv us G D q t (xs.map e) m6) ?_
    exact dc2_fn e step P hG xs (step acc x) hP st (hP x xs acc hp) fun acc' h1 h2 => hq acc' h1 (by rw [List.foldl_cons]; exact h2)
end
def Trm.ren (f : Int → Int) : Trm → Trm
  | .unk n => .unk (f n)
  | .pair a b => .pair (a.ren f) (b.ren f)
  | t => t
theorem Trm.ren_nums (f : Int → Int) : ∀ t : Trm, (t.ren f).nums = t.nums.map f
  | .num _ => rfl
  | .wd _ => rfl
  | .nil => rfl
  | .unk _ => rfl
  | .pair a b => by simp only [Trm.ren, Trm.nums, List.map_append, Trm.ren_nums f a, Trm.ren_nums f b]
theorem Trm.ren_deep (f : Int → Int) : ∀ t : Trm, (t.ren f).deep = t.deep
  | .num _ => rfl
  | .wd _ => rfl
  | .nil => rfl
  | .unk _ => rfl
  | .pair a b => by simp only [Trm.ren, Trm.deep, Trm.ren_deep f a, Trm.ren_deep f b]
theorem Trm.ren_pairs (f : Int → Int) : ∀ t : Trm, (t.ren f).pairs = t.pairs
  | .num _ => rfl
  | .wd _ => rfl
  | .nil => rfl
  | .unk _ => rfl
  | .pair a b => by simp only [Trm.ren, Trm.pairs, Trm.ren_pairs f a, Trm.ren_pairs f b]
theorem Trm.ren_ren (f g : Int → Int) : ∀ t : Trm, (t.ren f).ren g = t.ren fun n => g (f n)
  | .num _ => rfl
  | .wd _ => rfl
  | .nil => rfl
  | .unk _ => rfl
  | .pair a b => by simp only [Trm.ren, Trm.ren_ren f g a, Trm.ren_ren f g b]
theorem Trm.ren_congr {f g : Int → Int} : ∀ {t : Trm}, (∀ n ∈ t.nums, f n = g n) → t.ren f = t.ren g
  | .num _, _ => rfl
  | .wd _, _ => rfl
  | .nil, _ => rfl
  | .unk n, h => by simp only [Trm.ren]; rw [h n (by simp [Trm.nums])]
  | .pair a b, h => by
    simp only [Trm.ren]
    rw [Trm.ren_congr (t := a) fun n hn => h n (by simp only [Trm.nums, List.mem_append]; exact .inl hn), Trm.ren_congr (t := b) fun n hn => h n (by simp only [Trm.nums, List.mem_append]; exact .inr hn)]
theorem Trm.ren_ok {A U U' : Int → Prop} {f : Int → Int} : ∀ {t : Trm}, t.ok A U → (∀ n ∈ t.nums, U' (f n)) → (t.ren f).ok A U'
  | .num _, h, _ => h
  | .wd _, h, _ => h
  | .nil, h, _ => h
  | .unk n, _, hf => hf n (by simp [Trm.nums])
  | .pair a b, h, hf => ⟨Trm.ren_ok h.1 fun n hn => hf n (by simp only [Trm.nums, List.mem_append]; exact .inl hn), Trm.ren_ok h.2 fun n hn => hf n (by simp only [Trm.nums, List.mem_append]; exact .inr hn)⟩
def Inj (f : Int → Int) (l : List Int) : Prop := ∀ a ∈ l, ∀ b ∈ l, f a = f b → a = b
theorem foldl_ins_map {f : Int → Int} : ∀ (l acc : List Int), Inj f (acc ++ l) → (l.map f).foldl ins (acc.map f) = (l.foldl ins acc).map f
  | [], _, _ => rfl
  | n :: l, acc, h => by
    rw [List.map_cons, List.foldl_cons, List.foldl_cons]
    have e : ins (acc.map f) (f n) = (ins acc n).map f := by
      unfold ins
      by_cases hn : n ∈ acc
      · rw [if_pos hn, if_pos (List.mem_map_of_mem hn)]
      · rw [if_neg hn, if_neg fun z => ?_, List.map_append]
        · rfl
        · obtain ⟨x, hx, e⟩ := List.mem_map.mp z
          have := h x (List.mem_append_left _ hx) n (List.mem_append_right _ List.mem_cons_self) e
          exact hn (this ▸ hx)
    rw [e]
    have sub : ∀ a, a ∈ ins acc n ++ l → a ∈ acc ++ n :: l := fun a z => by
      rcases List.mem_append.mp z with z | z
      · unfold ins at z
        split at z
        · exact List.mem_append_left _ z
        · rcases List.mem_append.mp z with z | z
          · exact List.mem_append_left _ z
          · exact List.mem_append_right _ (List.mem_cons.mpr (.inl (List.mem_singleton.mp z)))
      · exact List.mem_append_right _ (List.mem_cons_of_mem _ z)
    exact foldl_ins_map l (ins acc n) fun a ha b hb => h a (sub a ha) b (sub b hb)
theorem once_map {f : Int → Int} {l : List Int} (h : Inj f l) : once (l.map f) = (once l).map f := foldl_ins_map l [] h
theorem once_nodup (l : List Int) : (once l).Nodup := by
  induction l using snocInd with
  | h0 => exact List.nodup_nil
  | h1 l y ih =>
    unfold once at ih ⊢
    rw [foldl_snoc]
    generalize l.foldl ins [] = F at ih ⊢
    unfold ins
    split
    · exact ih
    · rename_i h
      refine List.nodup_append.mpr ⟨ih, by simp, fun a ha b hb e => ?_⟩
      have hb : b = y := by simpa using hb
      exact h (hb ▸ e ▸ ha)
theorem once_nodup_self {l : List Int} (h : l.Nodup) : once l = l := by
  induction l using snocInd with
  | h0 => rfl
  | h1 l y ih =>
    have h2 := List.nodup_append.mp h
    have e := ih h2.1
    unfold once at e ⊢
    rw [foldl_snoc, e]
    unfold ins
    rw [if_neg fun z => h2.2.2 y z y (by simp) rfl]
def numsL (ts : List Trm) : List Int := ts.flatMap Trm.unks
def unksL (ts : List Trm) : List Int := once (numsL ts)
theorem unksL_mem {ts : List Trm} {n : Int} : n ∈ unksL ts ↔ ∃ t ∈ ts, n ∈ t.nums := by
  unfold unksL numsL
  rw [once_mem, List.mem_flatMap]
  constructor
  · rintro ⟨t, ht, h⟩
    exact ⟨t, ht, (once_mem n _).mp h⟩
  · rintro ⟨t, ht, h⟩
    exact ⟨t, ht, (once_mem n _).mpr h⟩
def idx (l : List Int) (n : Int) : Int := (l.idxOf n : Nat)
def renL (ts : List Trm) : List Trm := ts.map (Trm.ren (idx (unksL ts)))
theorem idx_inj (l : List Int) : Inj (idx l) l := by
  intro a ha b hb e
  unfold idx at e
  have e : l.idxOf a = l.idxOf b := by omega
  have h1 := List.idxOf_lt_length_of_mem ha
  have h2 := List.getElem_idxOf h1
  have h3 := List.getElem_idxOf (List.idxOf_lt_length_of_mem hb)
  simp only [e] at h2
  exact h2.symm.trans h3
theorem idx_map {f : Int → Int} : ∀ {l : List Int} {n : Int}, Inj f l → n ∈ l → (l.map f).idxOf (f n) = l.idxOf n
  | x :: l, n, h, hn => by
    rw [List.map_cons, List.idxOf_cons, List.idxOf_cons]
    by_cases e : x = n
    · subst e
      simp
    · have ne : f x ≠ f n := fun z => e (h x List.mem_cons_self n hn z)
      have hl : n ∈ l := (List.mem_cons.mp hn).resolve_left fun z => e z.symm
      have ih := idx_map (l := l) (n := n) (fun a ha b hb => h a (List.mem_cons_of_mem _ ha) b (List.mem_cons_of_mem _ hb)) hl
      simp only [beq_eq_false_iff_ne.mpr e, beq_eq_false_iff_ne.mpr ne, cond_false, ih]
theorem numsL_ren {f : Int → Int} {ts : List Trm} (h : Inj f (unksL ts)) : numsL (ts.map (Trm.ren f)) = (numsL ts).map f := by
  unfold numsL
  rw [List.flatMap_map, List.map_flatMap]
  have e : ∀ t ∈ ts, (Trm.ren f t).unks = (t.unks).map f := fun t ht => by
    unfold Trm.unks
    rw [Trm.ren_nums]
    refine once_map fun a ha b hb e => h a ?_ b ?_ e
    · exact unksL_mem.mpr ⟨t, ht, ha⟩
    · exact unksL_mem.mpr ⟨t, ht, hb⟩
  rw [List.flatMap_def, List.flatMap_def, List.map_congr_left e]
theorem unksL_ren {f : Int → Int} {ts : List Trm} (h : Inj f (unksL ts)) : unksL (ts.map (Trm.ren f)) = (unksL ts).map f := by
  unfold unksL
  rw [numsL_ren h]
  refine once_map fun a ha b hb e => h a ?_ b ?_ e
  · exact (once_mem a _).mpr ha
  · exact (once_mem b _).mpr hb
theorem renL_ren {f : Int → Int} {ts : List Trm} (h : Inj f (unksL ts)) : renL (ts.map (Trm.ren f)) = renL ts := by
  unfold renL
  rw [unksL_ren h, List.map_map]
  refine List.map_congr_left fun t ht => ?_
  show (t.ren f).ren _ = _
  rw [Trm.ren_ren]
  refine Trm.ren_congr fun n hn => ?_
  unfold idx
  rw [idx_map h (unksL_mem.mpr ⟨t, ht, hn⟩)]
theorem renL_renL (ts : List Trm) : renL (renL ts) = renL ts := renL_ren (idx_inj _)
theorem numsL_len {p : Nat} : ∀ {ts : List Trm}, (∀ t ∈ ts, t.pairs ≤ p) → (numsL ts).length ≤ ts.length * (p + 1)
  | [], _ => Nat.zero_le _
  | t :: ts, h => by
    have h1 := h t List.mem_cons_self
    have h2 := Trm.nums_len t
    have h3 : t.unks.length ≤ t.nums.length := once_len _
    have h4 := numsL_len (ts := ts) fun y hy => h y (List.mem_cons_of_mem _ hy)
    show (t.unks ++ numsL ts).length ≤ _
    rw [List.length_append, List.length_cons, Nat.succ_mul]
    omega
theorem idx_lt {l : List Int} {n : Int} (h : n ∈ l) : 0 ≤ idx l n ∧ idx l n < l.length := by
  have := List.idxOf_lt_length_of_mem h
  unfold idx
  omega
def numK : Nat → List Int → List (Key × AV)
  | _, [] => []
  | k, n :: r => (.inl n, .int (k : Nat)) :: numK (k + 1) r
theorem numK_snoc : ∀ (k : Nat) (l : List Int) (n : Int), numK k (l ++ [n]) = numK k l ++ [(.inl n, .int ((k + l.length : Nat)))]
  | k, [], n => rfl
  | k, x :: l, n => by
    simp only [List.cons_append, numK, numK_snoc (k + 1) l n, List.length_cons]
    rw [show k + 1 + l.length = k + (l.length + 1) by omega]
theorem numK_len : ∀ (k : Nat) (l : List Int), (numK k l).length = l.length
  | _, [] => rfl
  | k, _ :: l => congrArg (· + 1) (numK_len (k + 1) l)
theorem numK_any : ∀ (k : Nat) (l : List Int) (n : Int), ((numK k l).any fun kv => decide (kv.1 = Sum.inl n)) = decide (n ∈ l)
  | _, [], n => by simp [numK]
  | k, x :: l, n => by
    simp only [numK, List.any_cons, numK_any (k + 1) l n, Sum.inl.injEq, List.mem_cons]
    by_cases h : x = n
    · simp [h]
    · have h2 : ¬ n = x := fun z => h z.symm
      simp [h, h2]
theorem numK_get : ∀ (k : Nat) (l : List Int) (n : Int), n ∈ l → getK (numK k l) (.inl n) = some (.int (k + idx l n))
  | k, x :: l, n, h => by
    unfold getK idx
    by_cases e : x = n
    · subst e
      simp [numK]
    · have hl : n ∈ l := (List.mem_cons.mp h).resolve_left fun z => e z.symm
      have ih := numK_get (k + 1) l n hl
      unfold getK idx at ih
      rw [numK, List.find?_cons_of_neg (by simp [e]), ih, List.idxOf_cons]
      simp only [beq_eq_false_iff_ne.mpr e, cond_false]
      congr 2
      omega
theorem numK_none : ∀ (k : Nat) (l : List Int) (n : Int), n ∉ l → getK (numK k l) (.inl n) = none
  | _, [], n, _ => rfl
  | k, x :: l, n, h => by
    have e : x ≠ n := fun z => h (by simp [z])
    have ih := numK_none (k + 1) l n fun z => h (List.mem_cons_of_mem _ z)
    unfold getK at ih ⊢
    rw [numK, List.find?_cons_of_neg (by simp [e]), ih]
theorem numK_put {k : Nat} {l : List Int} {n : Int} (h : n ∉ l) : putA (numK k l) (.inl n) (.int ((k + l.length : Nat))) = numK k (l ++ [n]) := by
  unfold putA
  rw [numK_any, if_neg (by simpa using h), numK_snoc]
def enF : AV → Option (Key × AV)
  | .tup [.int i, .int n] => some (.inl n, .int i)
  | _ => none
theorem fold_enum : ∀ (l pre : List Int), (pre ++ l).Nodup → (enumA pre.length (l.map AV.int)).foldl (putFA enF) (numK 0 pre) = numK 0 (pre ++ l)
  | [], pre, _ => by simp [enumA]
  | n :: l, pre, h => by
    have hn : n ∉ pre := fun z => (List.nodup_append.mp h).2.2 n z n List.mem_cons_self rfl
    have e : putFA enF (numK 0 pre) (.tup [.int (pre.length : Nat), .int n]) = numK 0 (pre ++ [n]) := by
      show putA (numK 0 pre) (.inl n) (.int (pre.length : Nat)) = _
      have := numK_put (k := 0) hn
      rwa [Nat.zero_add] at this
    rw [List.map_cons, enumA, List.foldl_cons, e]
    have ih := fold_enum l (pre ++ [n]) (by rw [List.append_assoc]; exact h)
    rw [List.length_append, List.length_singleton, List.append_assoc] at ih
    exact ih
def setD (l : List Int) : List (Key × AV) := l.map fun i => (.inl i, .bl true)
def intF : AV → Option (Key × AV)
  | .int n => some (.inl n, .bl true)
  | _ => none
theorem setD_put (l : List Int) (n : Int) : putA (setD l) (.inl n) (.bl true) = setD (ins l n) := by
  unfold putA ins setD
  have e : ((l.map fun i => ((Sum.inl i : Key), AV.bl true)).any fun kv => decide (kv.1 = Sum.inl n)) = decide (n ∈ l) := by
    rw [List.any_map, Bool.eq_iff_iff, List.any_eq_true, decide_eq_true_iff]
    constructor
    · rintro ⟨x, hx, h⟩
      have : x = n := by simpa using h
      exact this ▸ hx
    · exact fun h => ⟨n, h, by simp⟩
  rw [e]
  by_cases h : n ∈ l
  · rw [if_pos (decide_eq_true h), if_pos h, List.map_map]
    refine List.map_congr_left fun i hi => ?_
    show (if (Sum.inl i : Key) = Sum.inl n then ((Sum.inl i : Key), AV.bl true) else ((Sum.inl i : Key), AV.bl true)) = _
    split <;> rfl
  · rw [if_neg (by simpa using h), if_neg h, List.map_append]
    rfl
theorem fold_setD : ∀ (ns l : List Int), (ns.map AV.int).foldl (putFA intF) (setD l) = setD (ns.foldl ins l)
  | [], _ => rfl
  | n :: ns, l => by
    rw [List.map_cons, List.foldl_cons, List.foldl_cons]
    show List.foldl (putFA intF) (putA (setD l) (.inl n) (.bl true)) _ = _
    rw [setD_put]
    exact fold_setD ns _
theorem setD_keys (l : List Int) : (setD l).map (fun kv => kA kv.1) = l.map AV.int := by
  unfold setD
  rw [List.map_map]
  rfl
end Ab

namespace Ab
open PySem PySem.Spec PyProof.Rows L2
def spEnd : ASp := fun xs m q => match xs with
  | [.scr _] => Own m ∧ ∀ m', q (.bl true) m'
  | _ => False
theorem sp_end {K : PySem.W.Frag} {H : Hp} {a : Addr} {ns : List Int} (o : Only H) (h : SqL K H a (ns.map V.int)) : clF K spEnd [.ref a] H (fun v _ => v = .bl true) fun _ _ _ => False :=
  ⟨[.scr ns], fun _ => none, fun x _ => x = .bl true, .cons (.scr (.of o h)) .nil, (fun _ _ e => by cases e), ⟨(fun _ _ e => by cases e), fun _ => rfl⟩, fun x m v J l g r e => by
    subst e
    cases r
    rfl⟩
section
variable {P : Program} {w : World} {K : PySem.W.Frag} {mg mb : Str → Option Value} {k : Nat} {fa a : Addr} {fd : FuncData} {x : Str} {t₁ : Shared} {vs : List Value} {ns : List Int}
theorem call_at {J : Hp} (kx : K.In t₁.heap) (nsm : t₁.heap.Ns mainGlobals mg) (nsb : t₁.heap.Ns builtinsNs mb) (mbb : ∀ x : Str, x ≠ "__name__" → mb x = bootBuiltins x) (lim : t₁.heap.NoLimit) (gs : t₁.gens = #[])
    (here : t₁.heap.get? a = some { cls := .type "list", data := .seq vs.toArray }) (rm : Room k callerA) (F : ∀ base : Heap, K.In base → base.Ns mainGlobals mg → AFn P w K mg base k fa fd [x] spEnd)
    (bd : ∀ (s : Shared) (u : Value), BindsTo s fd ⟨[u], []⟩ [(x, u)]) (only : Only J) (sq : SqL K J a (ns.map V.int)) (jok : HOk P w J t₁.heap) (one : ∀ b, J b ≠ none → b = a) (out : J a ≠ none → K.lookup a = none) :
    codeAny (model P w) callerA (.call (.ref fa) ⟨[.ref a], []⟩) (fun r t' => r = .ok (.ret (.bool true)) ∧ OldK t₁.heap t'.heap ∧ t'.os = t₁.os ∧ AllBare t'.gens) t₁ := by
  have there : ∀ {b : Addr} {o : Obj}, t₁.heap.get? b = some o → (J b ≠ none → False) → (hidT t₁.heap J).get? b = some o := fun {b o} e n => hidT_get e (by
    cases q : J b with
    | none => rfl
    | some u => exact (n (by rw [q]; exact fun z => by cases z)).elim)
  have nsK : ∀ {b : Addr} {m : Str → Option Value}, t₁.heap.Ns b m → (hidT t₁.heap J).Ns b m := by
    rintro b m ⟨o, es, ep, e, d, r⟩
    refine ⟨o, es, ep, there e fun n => ?_, d, r⟩
    obtain rfl := one b n
    rw [here] at e
    cases e
    have z : Data.seq vs.toArray _ = Data.dict es ep := d
    cases z
  have kb : K.In (hidT t₁.heap J) := fun b o e => there (kx b o e) fun n => by
    obtain rfl := one b n
    rw [out n] at e
    cases e
  have hm : Mod K mg (hidT t₁.heap J) := ⟨kb, nsK nsm, ⟨mb, nsK nsb, mbb⟩, by obtain ⟨mc, h1, h2⟩ := lim; exact ⟨mc, nsK h1, h2⟩⟩
  have env : Env0 P w K mg (hidT t₁.heap J) callerA [] t₁ J := ⟨rfl, hm, fun _ _ e => of_hidT e, Nat.le_of_eq (hidT_size _ _), trivial, fun b hb => (List.not_mem_nil hb).elim, jok, .of_eq gs⟩
  have run := (F _ kb (nsK nsm)).go callerA [] t₁ J ⟨[.ref a], []⟩ [.ref a] [.ref a] _ _ rm rfl env (bd t₁ (.ref a)) (.cons rfl .nil) (sp_end only sq)
  refine codeAny_mono run fun r t' h => ?_
  match r, h with
  | .error e, h => exact False.elim h
  | .ok .next, h => exact False.elim h
  | .ok .brk, h => exact False.elim h
  | .ok .cont, h => exact False.elim h
  | .ok (.ret u), h =>
    obtain ⟨v, J', os, bare, un, jok', rv, q⟩ := h
    have q : v = .bl true := q
    subst q
    have rv : u = Value.bool true := rv
    subst rv
    refine ⟨rfl, OldK.of_keep fun b o e => ?_, os, bare⟩
    cases q : J b with
    | none => exact un.keep b o e q (fun z => (List.not_mem_nil z).elim) (by simp)
    | some u =>
      rcases only b with z | ⟨ob, xs, z⟩
      · rw [q] at z; cases z
      · have e1 := (jok b _ z).1
        have e2 := (jok' b _ (un.frzs b ob _ z)).1
        rw [e] at e1
        cases e1
        exact e2
theorem call_end (kx : K.In t₁.heap) (nsm : t₁.heap.Ns mainGlobals mg) (nsb : t₁.heap.Ns builtinsNs mb) (mbb : ∀ x : Str, x ≠ "__name__" → mb x = bootBuiltins x) (lim : t₁.heap.NoLimit) (gs : t₁.gens = #[])
    (here : t₁.heap.get? a = some { cls := .type "list", data := .seq vs.toArray }) (nums : IntsAre vs ns) (most : ns.length ≤ sizeLine) (rm : Room k callerA)
    (F : ∀ base : Heap, K.In base → base.Ns mainGlobals mg → AFn P w K mg base k fa fd [x] spEnd) (bd : ∀ (s : Shared) (u : Value), BindsTo s fd ⟨[u], []⟩ [(x, u)]) :
    codeAny (model P w) callerA (.call (.ref fa) ⟨[.ref a], []⟩) (fun r t' => r = .ok (.ret (.bool true)) ∧ OldK t₁.heap t'.heap ∧ t'.os = t₁.os ∧ AllBare t'.gens) t₁ := by
  have rel := vals_ints nums
  have lens := nums.length
  cases own : K.lookup a with
  | some o =>
    have e := kx a o own
    rw [here] at e
    cases e
    exact call_at (J := fun _ => none) kx nsm nsb mbb lim gs here rm F bd (fun _ => .inl rfl)
      (.inr ⟨_, vs.toArray, _, own, rfl, rfl, rfl, by rw [List.size_toArray, lens]; exact most, by simpa using rel⟩)
      (fun b u z => by cases z) (fun b z => (z rfl).elim) (fun z => (z rfl).elim)
  | none =>
    let J : Hp := fun b => if b = a then some (.frz { cls := .type "list", data := .seq vs.toArray } (.lst (ns.map V.int))) else none
    have ja : J a = some (.frz { cls := .type "list", data := .seq vs.toArray } (.lst (ns.map V.int))) := if_pos rfl
    have jb : ∀ b, b ≠ a → J b = none := fun b h => if_neg h
    refine call_at (J := J) kx nsm nsb mbb lim gs here rm F bd (fun b => ?_) (.inl (.inr ⟨_, ja⟩)) (fun b u z => ?_) (fun b z => ?_) (fun _ => own)
    · by_cases h : b = a
      · subst h
        exact .inr ⟨_, _, ja⟩
      · exact .inl (jb b h)
    · by_cases h : b = a
      · subst h
        rw [ja] at z
        cases z
        exact ⟨here, by rw [List.length_map]; exact most, vs, _, rel, here⟩
      · rw [jb b h] at z
        cases z
    · by_cases h : b = a
      · exact h
      · exact (z (jb b h)).elim
end
theorem walk_end {l : PySem.W.OpenLaw} {n k : Nat} {q : Program} {loose : List Str} {XP : (Str → Option Value) → Heap → Prop} {YP : World → Heap → Prop} {d : DefRec} {K : Params → PySem.W.Frag} {x : Str}
    (most : l.most = some n) (small : n ≤ sizeLine) (nod : d.params.defaults = []) (rm : Room k callerA) (yk : ∀ (w : World) (h : Heap), YP w h → (K w.params).In h)
    (F : ∀ (w : World) (mg : Str → Option Value) (fa : Addr) (h : Heap), (K w.params).In h → h.Ns mainGlobals mg → mg d.name = some (.ref fa) →
      ∃ fd : FuncData, (∀ (s : Shared) (u : Value), BindsTo s fd ⟨[u], []⟩ [(x, u)]) ∧ ∀ base : Heap, (K w.params).In base → base.Ns mainGlobals mg → AFn l.prog w (K w.params) mg base k fa fd [x] spEnd) :
    PySem.W.WalkO q loose XP YP l.row.toRowW d [] (fun f vs => PySem.call f vs) :=
  Att.attach_call most nod fun w s₀ t₁ mg mb fa o pm cd doc a vs ns G Y ho hd hcd hmg here nums size gs => by
    obtain ⟨fd, bd, pr⟩ := F w mg fa _ (yk w _ Y) G.T.g hmg
    exact call_end (yk w _ Y) G.T.g G.T.b G.T.builtins G.T.nolimit gs here nums (Nat.le_trans size small) rm pr bd
end Ab

set_option maxHeartbeats 4000000
namespace K03
open PySem PySem.Spec PyProof.Rows L2 Ab
def topS (i : Nat) : Stmt := PySem.Challenge.pw_fairsearch_k03_renamed.main.body.getD i (.Pass ⟨0, 0, 0, 0⟩)
abbrev s_tips_in : Stmt := topS 2
abbrev n_tips_in : List Str := ["term", "found", "waiting", "here"]
abbrev p_tips_in : List Str := ["term"]
theorem sc_tips_in : FnScope n_tips_in p_tips_in (defScope s_tips_in) := ⟨rfl, rfl, rfl, by decide +kernel, rfl, by decide +kernel, by decide +kernel⟩
abbrev s_unknowns_in : Stmt := topS 3
abbrev n_unknowns_in : List Str := ["term", "numbers", "tip"]
abbrev p_unknowns_in : List Str := ["term"]
theorem sc_unknowns_in : FnScope n_unknowns_in p_unknowns_in (defScope s_unknowns_in) := ⟨rfl, rfl, rfl, by decide +kernel, rfl, by decide +kernel, by decide +kernel⟩
abbrev s_numbered : Stmt := topS 4
abbrev n_numbered : List Str := ["term", "numbers", "head", "rest"]
abbrev p_numbered : List Str := ["term", "numbers"]
theorem sc_numbered : FnScope n_numbered p_numbered (defScope s_numbered) := ⟨rfl, rfl, rfl, by decide +kernel, rfl, by decide +kernel, by decide +kernel⟩
abbrev s_renamed : Stmt := topS 5
abbrev n_renamed : List Str := ["terms", "met", "numbers", "term", "number", "at"]
abbrev p_renamed : List Str := ["terms"]
theorem sc_renamed : FnScope n_renamed p_renamed (defScope s_renamed) := ⟨rfl, rfl, rfl, by decide +kernel, rfl, by decide +kernel, by decide +kernel⟩
abbrev s__law_deck : Stmt := topS 7
abbrev n__law_deck : List Str := ["_law_script", "_law_cells"]
abbrev p__law_deck : List Str := ["_law_script"]
theorem sc__law_deck : FnScope n__law_deck p__law_deck (defScope s__law_deck) := ⟨rfl, rfl, rfl, by decide +kernel, rfl, by decide +kernel, by decide +kernel⟩
abbrev s__law_draw : Stmt := topS 8
abbrev n__law_draw : List Str := ["_law_deck_here", "_law_many", "_law_cells", "_law_cell", "_law_number_here"]
abbrev p__law_draw : List Str := ["_law_deck_here", "_law_many"]
theorem sc__law_draw : FnScope n__law_draw p__law_draw (defScope s__law_draw) := ⟨rfl, rfl, rfl, by decide +kernel, rfl, by decide +kernel, by decide +kernel⟩
abbrev s__law_names : Stmt := topS 9
abbrev n__law_names : List Str := ["_law_deck_here", "_law_many", "_law_letters", "_law_kinds", "_law_mode", "_law_turn", "_law_base", "_law_size", "_law_at", "_law_k"]
abbrev p__law_names : List Str := ["_law_deck_here", "_law_many"]
theorem sc__law_names : FnScope n__law_names p__law_names (defScope s__law_names) := ⟨rfl, rfl, rfl, by decide +kernel, rfl, by decide +kernel, by decide +kernel⟩
abbrev s__law_number : Stmt := topS 10
abbrev n__law_number : List Str := ["_law_deck_here", "_law_far"]
abbrev p__law_number : List Str := ["_law_deck_here"]
theorem sc__law_number : FnScope n__law_number p__law_number (defScope s__law_number) := ⟨rfl, rfl, rfl, by decide +kernel, rfl, by decide +kernel, by decide +kernel⟩
abbrev s__law_tip : Stmt := topS 11
abbrev n__law_tip : List Str := ["_law_deck_here", "_law_words", "_law_unknowns_here", "_law_kind"]
abbrev p__law_tip : List Str := ["_law_deck_here", "_law_words", "_law_unknowns_here"]
theorem sc__law_tip : FnScope n__law_tip p__law_tip (defScope s__law_tip) := ⟨rfl, rfl, rfl, by decide +kernel, rfl, by decide +kernel, by decide +kernel⟩
abbrev s__law_term : Stmt := topS 12
abbrev n__law_term : List Str := ["_law_deck_here", "_law_words", "_law_unknowns_here", "_law_deep", "_law_left", "_law_kind", "_law_head"]
abbrev p__law_term : List Str := ["_law_deck_here", "_law_words", "_law_unknowns_here", "_law_deep", "_law_left"]
theorem sc__law_term : FnScope n__law_term p__law_term (defScope s__law_term) := ⟨rfl, rfl, rfl, by decide +kernel, rfl, by decide +kernel, by decide +kernel⟩
abbrev s__law_any_term : Stmt := topS 13
abbrev n__law_any_term : List Str := ["_law_deck_here", "_law_words", "_law_unknowns_here", "_law_kind", "_law_term_here", "_law_k", "_law_tip_here"]
abbrev p__law_any_term : List Str := ["_law_deck_here", "_law_words", "_law_unknowns_here"]
theorem sc__law_any_term : FnScope n__law_any_term p__law_any_term (defScope s__law_any_term) := ⟨rfl, rfl, rfl, by decide +kernel, rfl, by decide +kernel, by decide +kernel⟩
abbrev s__law_unknowns : Stmt := topS 14
abbrev n__law_unknowns : List Str := ["_law_term_here", "_law_found", "_law_number_here"]
abbrev p__law_unknowns : List Str := ["_law_term_here"]
theorem sc__law_unknowns : FnScope n__law_unknowns p__law_unknowns (defScope s__law_unknowns) := ⟨rfl, rfl, rfl, by decide +kernel, rfl, by decide +kernel, by decide +kernel⟩
abbrev s__law_numbered : Stmt := topS 15
abbrev n__law_numbered : List Str := ["_law_term_here", "_law_numbers"]
abbrev p__law_numbered : List Str := ["_law_term_here", "_law_numbers"]
theorem sc__law_numbered : FnScope n__law_numbered p__law_numbered (defScope s__law_numbered) := ⟨rfl, rfl, rfl, by decide +kernel, rfl, by decide +kernel, by decide +kernel⟩
abbrev s__law_due : Stmt := topS 16
abbrev n__law_due : List Str := ["_law_terms", "_law_numbers", "_law_term_here", "_law_number_here"]
abbrev p__law_due : List Str := ["_law_terms"]
theorem sc__law_due : FnScope n__law_due p__law_due (defScope s__law_due) := ⟨rfl, rfl, rfl, by decide +kernel, rfl, by decide +kernel, by decide +kernel⟩
abbrev s_law : Stmt := topS 17
abbrev n_law : List Str := ["_law_script", "_law_deck_here", "_law_words", "_law_turn", "_law_great", "_law_unknowns_here", "_law_many", "_law_terms", "_law_due_here", "_law_numbers", "_law_k", "_law_number_here", "_law_others", "_law_term_here"]
abbrev p_law : List Str := ["_law_script"]
theorem sc_law : FnScope n_law p_law (defScope s_law) := ⟨rfl, rfl, rfl, by decide +kernel, rfl, by decide +kernel, by decide +kernel⟩
structure Txt (K : PySem.W.Frag) (mg : Str → Option Value) : Prop where
  b_enumerate : mg "enumerate" = none
  b_int : mg "int" = none
  b_isinstance : mg "isinstance" = none
  b_len : mg "len" = none
  b_list : mg "list" = none
  b_range : mg "range" = none
  b_repr : mg "repr" = none
  b_sum : mg "sum" = none
  b_tuple : mg "tuple" = none
  c_UNKNOWN : ∃ t, mg "UNKNOWN" = some (.str "?" t)
  t_tips_in : Top K mg "tips_in" s_tips_in p_tips_in
  t_unknowns_in : Top K mg "unknowns_in" s_unknowns_in p_unknowns_in
  t_numbered : Top K mg "numbered" s_numbered p_numbered
  t_renamed : Top K mg "renamed" s_renamed p_renamed
  t__law_deck : Top K mg "_law_deck" s__law_deck p__law_deck
  t__law_draw : Top K mg "_law_draw" s__law_draw p__law_draw
  t__law_names : Top K mg "_law_names" s__law_names p__law_names
  t__law_number : Top K mg "_law_number" s__law_number p__law_number
  t__law_tip : Top K mg "_law_tip" s__law_tip p__law_tip
  t__law_term : Top K mg "_law_term" s__law_term p__law_term
  t__law_any_term : Top K mg "_law_any_term" s__law_any_term p__law_any_term
  t__law_unknowns : Top K mg "_law_unknowns" s__law_unknowns p__law_unknowns
  t__law_numbered : Top K mg "_law_numbered" s__law_numbered p__law_numbered
  t__law_due : Top K mg "_law_due" s__law_due p__law_due
  t_law : Top K mg "law" s_law p_law
def t_tips_in (K : PySem.W.Frag) : ATS :=
  (aSeq K (aAsg (aLst aNil) (aName 1))
    (aSeq K (aAsg (aLst (aCons (aVar 0) aNil)) (aName 2))
    (aSeq K (aWhile K (aTest (aNilEq not (aVar 2)))
        (aSeq K (aAsg (aBM tyL bPop (aVar 2) aNil) (aName 3))
    (aIfS (aOr (aNot (aTest (aCB bIsi (aCons (aVar 3) (aCons (aC (.ty "tuple")) aNil))))) (aOr (aTest (aOp bEq (aVar 3) (aTup aNil))) (aTest (aOp bEq (aOp bIx (aVar 3) (aC (.int 0))) (aC (.str "?"))))))
        (aDrop (aBM tyL bAppend (aVar 1) (aCons (aVar 3) aNil)))
        (aDrop (aBM tyL bExtend (aVar 2) (aCons (aLst (aCons (aOp bIx (aVar 3) (aC (.int 1))) (aCons (aOp bIx (aVar 3) (aC (.int 0))) aNil))) aNil))))))
    (aRet (aVar 1)))))
def t_unknowns_in (K : PySem.W.Frag) (sp_tips_in : ASp) : ATS :=
  (aSeq K (aAsg (aDc K (wAny (aCall sp_tips_in [] (aCons (aVar 0) aNil))) (aName 2) (aAnd (aTest (aCB bIsi (aCons (aVar 2) (aCons (aC (.ty "tuple")) aNil)))) (aTest (aOp bNe (aVar 2) (aTup aNil)))) (aOp bIx (aVar 2) (aC (.int 1))) (aC (.bl true)) [2]) (aName 1))
    (aRet (aCB bTuple (aCons (aCB bList (aCons (aVar 1) aNil)) aNil))))
def t_numbered (K : PySem.W.Frag) (sp_numbered : ASp) : ATS :=
  (aSeq K (aIfS (aOr (aNot (aTest (aCB bIsi (aCons (aVar 0) (aCons (aC (.ty "tuple")) aNil))))) (aTest (aOp bEq (aVar 0) (aTup aNil))))
        (aRet (aVar 0))
        aNext)
    (aSeq K (aAsg (aVar 0) (aUnp 2 (aGCons (aName 2) (aGCons (aName 3) aGNil))))
    (aSeq K (aIfS (aTest (aOp bEq (aVar 2) (aC (.str "?"))))
        (aRet (aTup (aCons (aC (.str "?")) (aCons (aOp bIx (aVar 1) (aVar 3)) aNil))))
        aNext)
    (aRet (aTup (aCons (aCall sp_numbered [] (aCons (aVar 2) (aCons (aVar 1) aNil))) (aCons (aCall sp_numbered [] (aCons (aVar 3) (aCons (aVar 1) aNil))) aNil)))))))
def t_renamed (K : PySem.W.Frag) (sp_numbered : ASp) (sp_unknowns_in : ASp) : ATS :=
  (aSeq K (aAsg (aDc2 K (wAny (aVar 0)) (aName 3) aYes (wAny (aCall sp_unknowns_in [] (aCons (aVar 3) aNil))) (aName 4) aYes (aVar 4) (aC (.bl true)) [3, 4] [4]) (aName 1))
    (aSeq K (aLock (aAsg (aDc K (wEnumD (aVar 1)) (aUnp 2 (aGCons (aName 5) (aGCons (aName 4) aGNil))) aYes (aVar 4) (aVar 5) [5, 4]) (aName 2)))
    (aRet (aCB bTuple (aCons (aLc K (wAny (aVar 0)) (aName 3) aYes (aCall sp_numbered [] (aCons (aVar 3) (aCons (aVar 2) aNil))) [3]) aNil)))))
def t__law_deck (K : PySem.W.Frag) : ATS :=
  (aSeq K (aAsg (aCB bList (aCons (aSl bSl (aVar 0) aNoPart (aPart (aC (.int 63)))) aNil)) (aName 1))
    (aRet (aLst (aCons (aVar 1) (aCons (aOp bAdd (aC (.int 130043)) (aOp bMod (aCB bSum (aCons (aVar 1) aNil)) (aC (.int 2147483579)))) (aCons (aC (.int 0)) aNil))))))
def t__law_draw (K : PySem.W.Frag) : ATS :=
  (aSeq K (aAsg (aOp bAdd (aOp bIx (aVar 0) (aC (.int 2))) (aC (.int 1))) (aSub (aVar 0) (aC (.int 2)) bSet))
    (aSeq K (aAsg (aOp bIx (aVar 0) (aC (.int 0))) (aName 2))
    (aSeq K (aAsg (aOp bIx (aVar 0) (aC (.int 1))) (aName 3))
    (aSeq K (aIfS (aTest (aNilEq not (aVar 2)))
        (aSeq K (aAsg (aBM tyL bPop (aVar 2) (aCons (aC (.int 0)) aNil)) (aName 3))
    (aSeq K (aIfS (aTest (aOp bGe (aVar 3) (aOp bPow (aC (.int 10)) (aC (.int 18)))))
        (aSeq K (aDrop (aBM tyL bInsert (aVar 2) (aCons (aC (.int 0)) (aCons (aOp bFdiv (aVar 3) (aVar 1)) aNil))))
    (aRet (aOp bMod (aVar 3) (aVar 1))))
        aNext)
    (aAsg (aOp bAdd (aVar 3) (aOp bIx (aVar 0) (aC (.int 1)))) (aName 3))))
        aNext)
    (aSeq K (aAsg (aOp bMod (aOp bAdd (aOp bAdd (aOp bMul (aOp bMod (aVar 3) (aC (.int 2147483629))) (aC (.int 48271))) (aOp bMul (aC (.int 6997)) (aOp bIx (aVar 0) (aC (.int 2))))) (aC (.int 17))) (aC (.int 2147483647))) (aName 4))
    (aSeq K (aAsg (aOp bMod (aOp bAdd (aOp bAdd (aOp bMul (aVar 4) (aVar 4)) (aOp bMul (aC (.int 69621)) (aVar 4))) (aOp bIx (aVar 0) (aC (.int 2)))) (aC (.int 2147483587))) (aName 4))
    (aSeq K (aAsg (aVar 4) (aSub (aVar 0) (aC (.int 1)) bSet))
    (aRet (aOp bMod (aOp bFdiv (aOp bMod (aOp bMul (aVar 4) (aOp bAdd (aVar 4) (aC (.int 40692)))) (aC (.int 2147483563))) (aC (.int 64))) (aVar 1))))))))))
def t__law_names (K : PySem.W.Frag) (sp__law_draw : ASp) : ATS :=
  (aSeq K (aAsg (aC (.str "abcdefghijklmnopqrstuvwxyz")) (aName 2))
    (aSeq K (aAsg (aLst (aCons (aC (.str "same")) (aCons (aC (.str "both")) (aCons (aC (.str "call")) (aCons (aC (.str "either")) (aCons (aC (.str "fresh")) (aCons (aC (.str "unlike")) (aCons (aC (.str "number")) (aCons (aC (.str "word")) (aCons (aC (.str "absent")) (aCons (aC (.str "x")) (aCons (aC (.str "put")) (aCons (aC (.str "go")) aNil))))))))))))) (aName 3))
    (aSeq K (aAsg (aCall sp__law_draw [] (aCons (aVar 0) (aCons (aC (.int 4)) aNil))) (aName 4))
    (aSeq K (aAsg (aCall sp__law_draw [] (aCons (aVar 0) (aCons (aC (.int 26)) aNil))) (aName 5))
    (aSeq K (aAsg (aJoin (aC (.str "")) (aLc K (wRange1 (aC (.int 8))) (aName 9) aYes (aOp bIx (aVar 2) (aCall sp__law_draw [] (aCons (aVar 0) (aCons (aC (.int 26)) aNil)))) [9])) (aName 6))
    (aSeq K (aAsg (aOp bAdd (aC (.int 1)) (aCall sp__law_draw [] (aCons (aVar 0) (aCons (aC (.int 8)) aNil)))) (aName 7))
    (aSeq K (aAsg (aCall sp__law_draw [] (aCons (aVar 0) (aCons (aVar 7) aNil))) (aName 8))
    (aSeq K (aIfS (aTest (aOp bEq (aVar 4) (aC (.int 0))))
        (aRet (aLc K (wRange1 (aVar 1)) (aName 9) aYes (aOp bIx (aVar 3) (aOp bMod (aOp bAdd (aVar 5) (aOp bMul (aC (.int 5)) (aVar 9))) (aC (.int 12)))) [9]))
        aNext)
    (aSeq K (aIfS (aAnd (aTest (aOp bEq (aVar 4) (aC (.int 1)))) (aTest (aOp bLt (aVar 1) (aC (.int 9)))))
        (aRet (aLc K (wRange1 (aVar 1)) (aName 9) aYes (aSl bSl (aVar 6) aNoPart (aPart (aOp bAdd (aC (.int 1)) (aVar 9)))) [9]))
        aNext)
    (aRet (aLc K (wRange1 (aVar 1)) (aName 9) aYes (aOp bAdd (aOp bAdd (aSl bSl (aVar 6) aNoPart (aPart (aVar 8))) (aOp bIx (aVar 2) (aOp bMod (aOp bAdd (aVar 5) (aOp bMul (aC (.int 7)) (aVar 9))) (aC (.int 26))))) (aSl bSl (aVar 6) (aPart (aOp bAdd (aVar 8) (aC (.int 1)))) (aPart (aVar 7)))) [9])))))))))))
def t__law_number (K : PySem.W.Frag) (sp__law_draw : ASp) : ATS :=
  (aSeq K (aAsg (aOp bAdd (aOp bMul (aCall sp__law_draw [] (aCons (aVar 0) (aCons (aOp bPow (aC (.int 10)) (aC (.int 6))) aNil))) (aOp bPow (aC (.int 10)) (aC (.int 6)))) (aCall sp__law_draw [] (aCons (aVar 0) (aCons (aOp bPow (aC (.int 10)) (aC (.int 6))) aNil)))) (aName 1))
    (aRet (aOp bIx (aLst (aCons (aC (.int 0)) (aCons (aC (.int 1)) (aCons (aC (.int 2)) (aCons (aC (.int 9)) (aCons (aC (.int 10)) (aCons (aC (.int 99)) (aCons (aC (.int 100)) (aCons (aUn bNeg (aC (.int 1))) (aCons (aUn bNeg (aC (.int 10))) (aCons (aOp bPow (aC (.int 10)) (aC (.int 12))) (aCons (aVar 1) (aCons (aOp bSub (aC (.int 0)) (aVar 1)) aNil))))))))))))) (aCall sp__law_draw [] (aCons (aVar 0) (aCons (aC (.int 12)) aNil))))))
def t__law_tip (K : PySem.W.Frag) (sp__law_draw : ASp) (sp__law_number : ASp) : ATS :=
  (aSeq K (aAsg (aCall sp__law_draw [] (aCons (aVar 0) (aCons (aC (.int 8)) aNil))) (aName 3))
    (aSeq K (aIfS (aAnd (aTest (aOp bLt (aVar 3) (aC (.int 3)))) (aTest (aNilEq not (aVar 2))))
        (aRet (aTup (aCons (aC (.str "?")) (aCons (aOp bIx (aVar 2) (aCall sp__law_draw [] (aCons (aVar 0) (aCons (aCB bLen (aCons (aVar 2) aNil)) aNil)))) aNil))))
        aNext)
    (aSeq K (aIfS (aTest (aOp bEq (aVar 3) (aC (.int 3))))
        (aRet (aTup aNil))
        aNext)
    (aSeq K (aIfS (aTest (aOp bLt (aVar 3) (aC (.int 6))))
        (aRet (aOp bIx (aVar 1) (aCall sp__law_draw [] (aCons (aVar 0) (aCons (aCB bLen (aCons (aVar 1) aNil)) aNil)))))
        aNext)
    (aRet (aCall sp__law_number [] (aCons (aVar 0) aNil)))))))
def t__law_term (K : PySem.W.Frag) (sp__law_draw : ASp) (sp__law_term : ASp) (sp__law_tip : ASp) : ATS :=
  (aSeq K (aAsg (aCall sp__law_draw [] (aCons (aVar 0) (aCons (aC (.int 5)) aNil))) (aName 5))
    (aSeq K (aIfS (aOr (aTest (aOp bLt (aVar 3) (aC (.int 2)))) (aOr (aTest (aOp bLt (aOp bIx (aVar 4) (aC (.int 0))) (aC (.int 2)))) (aTest (aOp bEq (aVar 5) (aC (.int 0))))))
        (aRet (aCall sp__law_tip [] (aCons (aVar 0) (aCons (aVar 1) (aCons (aVar 2) aNil)))))
        aNext)
    (aSeq K (aAsg (aOp bSub (aOp bIx (aVar 4) (aC (.int 0))) (aC (.int 2))) (aSub (aVar 4) (aC (.int 0)) bSet))
    (aSeq K (aAsg (aCall sp__law_term [] (aCons (aVar 0) (aCons (aVar 1) (aCons (aVar 2) (aCons (aOp bIx (aLst (aCons (aOp bSub (aVar 3) (aC (.int 1))) (aCons (aC (.int 1)) aNil))) (aCB bToInt (aCons (aOp bEq (aVar 5) (aC (.int 1))) aNil))) (aCons (aVar 4) aNil)))))) (aName 6))
    (aRet (aTup (aCons (aVar 6) (aCons (aCall sp__law_term [] (aCons (aVar 0) (aCons (aVar 1) (aCons (aVar 2) (aCons (aOp bSub (aVar 3) (aC (.int 1))) (aCons (aVar 4) aNil)))))) aNil))))))))
def t__law_any_term (K : PySem.W.Frag) (sp__law_draw : ASp) (sp__law_term : ASp) (sp__law_tip : ASp) : ATS :=
  (aSeq K (aAsg (aCall sp__law_draw [] (aCons (aVar 0) (aCons (aC (.int 8)) aNil))) (aName 3))
    (aSeq K (aIfS (aTest (aOp bEq (aVar 3) (aC (.int 5))))
        (aRet (aCall sp__law_term [] (aCons (aVar 0) (aCons (aVar 1) (aCons (aVar 2) (aCons (aC (.int 29)) (aCons (aLst (aCons (aC (.int 116)) aNil)) aNil)))))))
        aNext)
    (aSeq K (aIfS (aTest (aOp bGt (aVar 3) (aC (.int 5))))
        (aSeq K (aAsg (aCall sp__law_tip [] (aCons (aVar 0) (aCons (aVar 1) (aCons (aVar 2) aNil)))) (aName 4))
    (aSeq K (aFor K (wRange1 (aOp bAdd (aC (.int 1)) (aCall sp__law_draw [] (aCons (aVar 0) (aCons (aC (.int 28)) aNil))))) (aName 5)
        (aSeq K (aAsg (aCall sp__law_tip [] (aCons (aVar 0) (aCons (aVar 1) (aCons (aVar 2) aNil)))) (aName 6))
    (aAsg (aOp bIx (aLst (aCons (aTup (aCons (aVar 6) (aCons (aVar 4) aNil))) (aCons (aTup (aCons (aVar 4) (aCons (aVar 6) aNil))) aNil))) (aOp bSub (aVar 3) (aC (.int 6)))) (aName 4))))
    (aRet (aVar 4))))
        aNext)
    (aRet (aCall sp__law_term [] (aCons (aVar 0) (aCons (aVar 1) (aCons (aVar 2) (aCons (aOp bIx (aLst (aCons (aC (.int 2)) (aCons (aC (.int 3)) (aCons (aC (.int 5)) aNil)))) (aCall sp__law_draw [] (aCons (aVar 0) (aCons (aC (.int 3)) aNil)))) (aCons (aLst (aCons (aOp bIx (aLst (aCons (aC (.int 2)) (aCons (aC (.int 6)) (aCons (aC (.int 12)) aNil)))) (aCall sp__law_draw [] (aCons (aVar 0) (aCons (aC (.int 3)) aNil)))) aNil)) aNil))))))))))
def t__law_unknowns (K : PySem.W.Frag) (sp__law_unknowns : ASp) : ATS :=
  (aSeq K (aIfS (aOr (aNot (aTest (aCB bIsi (aCons (aVar 0) (aCons (aC (.ty "tuple")) aNil))))) (aTest (aOp bEq (aVar 0) (aTup aNil))))
        (aRet (aLst aNil))
        aNext)
    (aSeq K (aIfS (aTest (aOp bEq (aOp bIx (aVar 0) (aC (.int 0))) (aC (.str "?"))))
        (aRet (aLst (aCons (aOp bIx (aVar 0) (aC (.int 1))) aNil)))
        aNext)
    (aSeq K (aAsg (aCall sp__law_unknowns [] (aCons (aOp bIx (aVar 0) (aC (.int 0))) aNil)) (aName 1))
    (aRet (aOp bAdd (aVar 1) (aLc K (wAny (aCall sp__law_unknowns [] (aCons (aOp bIx (aVar 0) (aC (.int 1))) aNil))) (aName 2) (aTest (aOp bNotIn (aVar 2) (aVar 1))) (aVar 2) [2]))))))
def t__law_numbered (K : PySem.W.Frag) (sp__law_numbered : ASp) : ATS :=
  (aSeq K (aIfS (aOr (aNot (aTest (aCB bIsi (aCons (aVar 0) (aCons (aC (.ty "tuple")) aNil))))) (aTest (aOp bEq (aVar 0) (aTup aNil))))
        (aRet (aVar 0))
        aNext)
    (aSeq K (aIfS (aTest (aOp bEq (aOp bIx (aVar 0) (aC (.int 0))) (aC (.str "?"))))
        (aRet (aTup (aCons (aC (.str "?")) (aCons (aOp bIx (aVar 1) (aOp bIx (aVar 0) (aC (.int 1)))) aNil))))
        aNext)
    (aRet (aTup (aCons (aCall sp__law_numbered [] (aCons (aOp bIx (aVar 0) (aC (.int 0))) (aCons (aVar 1) aNil))) (aCons (aCall sp__law_numbered [] (aCons (aOp bIx (aVar 0) (aC (.int 1))) (aCons (aVar 1) aNil))) aNil))))))
def t__law_due (K : PySem.W.Frag) (sp__law_numbered : ASp) (sp__law_unknowns : ASp) : ATS :=
  (aSeq K (aAsg aDNew (aName 1))
    (aSeq K (aFor K (wAny (aVar 0)) (aName 2)
        (aFor K (wAny (aCall sp__law_unknowns [] (aCons (aVar 2) aNil))) (aName 3)
        (aDrop (aSetd (aVar 1) (aVar 3) (aCB bLen (aCons (aVar 1) aNil))))))
    (aRet (aCB bTuple (aCons (aLc K (wAny (aVar 0)) (aName 2) aYes (aCall sp__law_numbered [] (aCons (aVar 2) (aCons (aVar 1) aNil))) [2]) aNil)))))
def t_law (K : PySem.W.Frag) (sp__law_any_term : ASp) (sp__law_deck : ASp) (sp__law_draw : ASp) (sp__law_due : ASp) (sp__law_names : ASp) (sp__law_numbered : ASp) (sp_renamed : ASp) : ATS :=
  (aSeq K (aAsg (aCall sp__law_deck [] (aCons (aVar 0) aNil)) (aName 1))
    (aSeq K (aAsg (aCall sp__law_names [] (aCons (aVar 1) (aCons (aC (.int 3)) aNil))) (aName 2))
    (aSeq K (aFor K (wRange1 (aC (.int 6))) (aName 3)
        (aSeq K (aAsg (aOp bEq (aCall sp__law_draw [] (aCons (aVar 1) (aCons (aC (.int 8)) aNil))) (aC (.int 5))) (aName 4))
    (aSeq K (aAsg (aOp bIx (aLst (aCons (aLst (aCons (aC (.int 2)) (aCons (aC (.int 1)) (aCons (aC (.int 0)) aNil)))) (aCons (aLst (aCons (aC (.int 3)) (aCons (aC (.int 0)) (aCons (aC (.int 99)) (aCons (aC (.int 10)) (aCons (aC (.int 999)) (aCons (aC (.int 100)) aNil))))))) (aCons (aLst (aCons (aC (.int 7)) aNil)) aNil)))) (aCall sp__law_draw [] (aCons (aVar 1) (aCons (aC (.int 3)) aNil)))) (aName 5))
    (aSeq K (aAsg (aOp bIx (aLst (aCons (aCall sp__law_draw [] (aCons (aVar 1) (aCons (aC (.int 5)) aNil))) (aCons (aC (.int 12)) aNil))) (aCB bToInt (aCons (aVar 4) aNil))) (aName 6))
    (aSeq K (aAsg (aCB bTuple (aCons (aLc K (wRange1 (aVar 6)) (aName 10) aYes (aCall sp__law_any_term [] (aCons (aVar 1) (aCons (aVar 2) (aCons (aVar 5) aNil)))) [10]) aNil)) (aName 7))
    (aSeq K (aAsg (aCall sp__law_due [] (aCons (aVar 7) aNil)) (aName 8))
    (aSeq K (aIfS (aOr (aTest (aOp bNe (aCB bRepr (aCons (aCall sp_renamed [] (aCons (aVar 7) aNil)) aNil)) (aCB bRepr (aCons (aVar 8) aNil)))) (aTest (aOp bNe (aCall sp_renamed [] (aCons (aVar 8) aNil)) (aVar 8))))
        (aRet (aC (.bl false)))
        aNext)
    (aSeq K (aAsg aDNew (aName 9))
    (aSeq K (aFor K (wEnum (aVar 5)) (aUnp 2 (aGCons (aName 10) (aGCons (aName 11) aGNil)))
        (aAsg (aOp bIx (aLst (aCons (aC (.int 100)) (aCons (aC (.int 5)) (aCons (aC (.int 41)) (aCons (aC (.int 0)) (aCons (aC (.int 998)) (aCons (aC (.int 6)) aNil))))))) (aOp bMod (aOp bAdd (aVar 10) (aVar 3)) (aC (.int 6)))) (aSub (aVar 9) (aVar 11) bSet)))
    (aSeq K (aAsg (aCB bTuple (aCons (aLc K (wAny (aVar 7)) (aName 13) aYes (aCall sp__law_numbered [] (aCons (aVar 13) (aCons (aVar 9) aNil))) [13]) aNil)) (aName 12))
    (aIfS (aOr (aTest (aOp bNe (aCall sp_renamed [] (aCons (aVar 12) aNil)) (aVar 8))) (aTest (aOp bNe (aCB bRepr (aCons (aCall sp_renamed [] (aCons (aRev (aVar 7)) aNil)) aNil)) (aCB bRepr (aCons (aCall sp__law_due [] (aCons (aRev (aVar 7)) aNil)) aNil)))))
        (aRet (aC (.bl false)))
        aNext)))))))))))
    (aRet (aOp bEq (aCall sp_renamed [] (aCons (aTup aNil) aNil)) (aTup aNil))))))
section
variable {P : Program} {w : World} {K : PySem.W.Frag} {mg : Str → Option Value} {base : Heap} {k : Nat}
theorem w_tips_in (T : Txt K mg) {sp : ASp} (len : ∀ xs m q, sp xs m q → xs.length = 1)
    (rd : Reads K n_tips_in (t_tips_in K) sp) : Def P w K mg base (k + 1) "tips_in" p_tips_in sp := okT T.t_tips_in sc_tips_in len fun f cdv A o s H E hr hgd => by
  have hu := room164 hr
  exact ⟨(t_tips_in K), (ass_cons (as_set (i := 1) sc_tips_in.nd rfl (.inl rfl) (ae_lst aa_nil))
      (ass_cons (as_set (i := 2) sc_tips_in.nd rfl (.inl rfl) (ae_lst (aa_cons (ae_var (pv 0)) aa_nil)))
      (ass_cons (as_while PassesOwn.never (at_neNil hu (ae_var (pv 2)))
        (ass_cons (as_set (i := 3) sc_tips_in.nd rfl (.inl rfl) (ae_pop (ae_var (pv 2))))
      (ass_one (as_if (at_w (aw_or (at_not (at_val (ae_callB cb_isi (by rfl) T.b_isinstance (by decide +kernel) (aa_cons (ae_var (pv 3)) (aa_cons (ae_ty (n := "tuple") rfl T.b_tuple (by decide +kernel)) aa_nil))))) (aw_or (at_cmp (ob_eq hu) (ae_var (pv 3)) (ae_tup aa_nil) (nomark _)) (aw_or1 (at_cmp (ob_eq hu) (ae_ix (ob_ix hu) (ae_var (pv 3)) ae_int) (ae_gStr rfl T.c_UNKNOWN) (nomark _))))))
        (ass_one (as_expr (ae_append (ae_var (pv 1)) (aa_cons (ae_var (pv 3)) aa_nil))))
        (ass_one (as_expr (ae_extend (ae_var (pv 2)) (aa_cons (ae_lst (aa_cons (ae_ix (ob_ix hu) (ae_var (pv 3)) ae_int) (aa_cons (ae_ix (ob_ix hu) (ae_var (pv 3)) ae_int) aa_nil))) aa_nil))))))))
      (ass_one (as_ret (ae_var (pv 1))))))), rd⟩
theorem w_unknowns_in (T : Txt K mg) {sp_tips_in : ASp} (d_tips_in : Def P w K mg base k "tips_in" p_tips_in sp_tips_in) {sp : ASp} (len : ∀ xs m q, sp xs m q → xs.length = 1)
    (rd : Reads K n_unknowns_in (t_unknowns_in K sp_tips_in) sp) : Def P w K mg base (k + 1) "unknowns_in" p_unknowns_in sp := okT T.t_unknowns_in sc_unknowns_in len fun f cdv A o s H E hr hgd => by
  have hu := room164 hr
  exact ⟨(t_unknowns_in K sp_tips_in), (ass_cons (as_setDc (i := 1) (own := [("tip", 2)]) rfl sc_unknowns_in.nd rfl rfl (sw_dict rfl rfl rfl (by decide +kernel)) (ai_seq (ae_callN d_tips_in hr (by omega) hgd rfl (aa_cons (ae_var (pv 0)) aa_nil))) (blkOk_by (own := [("tip", 2)]) (N := n_unknowns_in) (sc := defScope s_unknowns_in) (by decide +kernel)) (fun _ _ _ _ _ => (ag_name (pg_name (i := 2) sc_unknowns_in.nd rfl (.inl rfl)))) (fun _ _ _ _ _ => (ats_one (at_w (aw_and (at_val (ae_callB cb_isi (by rfl) T.b_isinstance (by decide +kernel) (aa_cons (ae_var (pv 2)) (aa_cons (ae_ty (n := "tuple") rfl T.b_tuple (by decide +kernel)) aa_nil)))) (aw_and1 (at_cmp (ob_ne hu) (ae_var (pv 2)) (ae_tup aa_nil) (nomark _))))))) (fun _ _ _ _ _ => (ae_ix (ob_ix hu) (ae_var (pv 2)) ae_int)) (fun _ _ _ _ _ => ae_bl))
      (ass_one (as_ret (ae_callTy cb_tuple (by rfl) T.b_tuple (by decide +kernel) (aa_cons (ae_callTy (cb_list rfl) (by rfl) T.b_list (by decide +kernel) (aa_cons (ae_var (pv 1)) aa_nil)) aa_nil))))), rd⟩
theorem w_numbered (T : Txt K mg) {sp_numbered : ASp} (d_numbered : Def P w K mg base k "numbered" p_numbered sp_numbered) {sp : ASp} (len : ∀ xs m q, sp xs m q → xs.length = 2)
    (rd : Reads K n_numbered (t_numbered K sp_numbered) sp) : Def P w K mg base (k + 1) "numbered" p_numbered sp := okT T.t_numbered sc_numbered len fun f cdv A o s H E hr hgd => by
  have hu := room164 hr
  exact ⟨(t_numbered K sp_numbered), (ass_cons (as_if (at_w (aw_or (at_not (at_val (ae_callB cb_isi (by rfl) T.b_isinstance (by decide +kernel) (aa_cons (ae_var (pv 0)) (aa_cons (ae_ty (n := "tuple") rfl T.b_tuple (by decide +kernel)) aa_nil))))) (aw_or1 (at_cmp (ob_eq hu) (ae_var (pv 0)) (ae_tup aa_nil) (nomark _)))))
        (ass_one (as_ret (ae_var (pv 0))))
        ass_nil)
      (ass_cons (as_asg (ae_var (pv 0)) (ag_tup rfl (ags_cons (ag_name (pg_name (i := 2) sc_numbered.nd rfl (.inl rfl))) (ags_cons (ag_name (pg_name (i := 3) sc_numbered.nd rfl (.inl rfl))) ags_nil))))
      (ass_cons (as_if (at_cmp (ob_eq hu) (ae_var (pv 2)) (ae_gStr rfl T.c_UNKNOWN) (nomark _))
        (ass_one (as_ret (ae_tup (aa_cons (ae_gStr rfl T.c_UNKNOWN) (aa_cons (ae_ix (ob_ix hu) (ae_var (pv 1)) (ae_var (pv 3))) aa_nil)))))
        ass_nil)
      (ass_one (as_ret (ae_tup (aa_cons (ae_callN d_numbered hr (by omega) hgd rfl (aa_cons (ae_var (pv 2)) (aa_cons (ae_var (pv 1)) aa_nil))) (aa_cons (ae_callN d_numbered hr (by omega) hgd rfl (aa_cons (ae_var (pv 3)) (aa_cons (ae_var (pv 1)) aa_nil))) aa_nil)))))))), rd⟩
theorem w_renamed (T : Txt K mg) {sp_numbered : ASp} {sp_unknowns_in : ASp} (d_numbered : Def P w K mg base k "numbered" p_numbered sp_numbered) (d_unknowns_in : Def P w K mg base k "unknowns_in" p_unknowns_in sp_unknowns_in) {sp : ASp} (len : ∀ xs m q, sp xs m q → xs.length = 1)
    (rd : Reads K n_renamed (t_renamed K sp_numbered sp_unknowns_in) sp) : Def P w K mg base (k + 1) "renamed" p_renamed sp := okT T.t_renamed sc_renamed len fun f cdv A o s H E hr hgd => by
  have hu := room164 hr
  exact ⟨(t_renamed K sp_numbered sp_unknowns_in), (ass_cons (as_setDc2 (i := 1) (own := [("term", 3), ("number", 4)]) (us := [4]) rfl sc_renamed.nd rfl rfl (sw_dict rfl rfl rfl (by decide +kernel)) (ai_seq (ae_var (pv 0))) (blkOk_by (own := [("term", 3), ("number", 4)]) (N := n_renamed) (sc := defScope s_renamed) (by decide +kernel)) (by decide) (fun _ _ _ _ _ => (ag_name (pg_name (i := 3) sc_renamed.nd rfl (.inl rfl)))) (fun _ _ _ _ _ => ats_nil) (fun _ _ _ _ _ => (ai_seq (ae_callN d_unknowns_in hr (by omega) hgd rfl (aa_cons (ae_var (pv 3)) aa_nil)))) (fun _ _ _ _ _ => (ag_name (pg_name (i := 4) sc_renamed.nd rfl (.inl rfl)))) (fun _ _ _ _ _ => ats_nil) (fun _ _ _ _ _ => (ae_var (pv 4))) (fun _ _ _ _ _ => ae_bl))
      (ass_cons (as_lock (as_set (i := 2) sc_renamed.nd rfl (.inr rfl) (ae_dc (own := [("at", 5), ("number", 4)]) rfl sc_renamed.nd (ai_enumD (by rfl) T.b_enumerate (ae_var (pv 1))) (blkOk_by (own := [("at", 5), ("number", 4)]) (N := n_renamed) (sc := defScope s_renamed) (by decide +kernel)) (fun _ _ _ _ _ => (ag_tup rfl (ags_cons (ag_name (pg_name (i := 5) sc_renamed.nd rfl (.inl rfl))) (ags_cons (ag_name (pg_name (i := 4) sc_renamed.nd rfl (.inl rfl))) ags_nil)))) (fun _ _ _ _ _ => ats_nil) (fun _ _ _ _ _ => (ae_var (pv 4))) (fun _ _ _ _ _ => (ae_var (pv 5))))))
      (ass_one (as_ret (ae_callTy cb_tuple (by rfl) T.b_tuple (by decide +kernel) (aa_cons (ae_lc (own := [("term", 3)]) rfl sc_renamed.nd (ai_seq (ae_var (pv 0))) (blkOk_by (own := [("term", 3)]) (N := n_renamed) (sc := defScope s_renamed) (by decide +kernel)) (fun _ _ _ _ _ => (ag_name (pg_name (i := 3) sc_renamed.nd rfl (.inl rfl)))) (fun _ _ _ _ _ => ats_nil) (fun _ _ _ _ _ => (ae_callN d_numbered hr (by omega) hgd rfl (aa_cons (ae_var (pv 3)) (aa_cons (ae_var (pv 2)) aa_nil))))) aa_nil)))))), rd⟩
theorem w__law_deck (T : Txt K mg) {sp : ASp} (len : ∀ xs m q, sp xs m q → xs.length = 1)
    (rd : Reads K n__law_deck (t__law_deck K) sp) : Def P w K mg base (k + 1) "_law_deck" p__law_deck sp := okT T.t__law_deck sc__law_deck len fun f cdv A o s H E hr hgd => by
  have hu := room164 hr
  exact ⟨(t__law_deck K), (ass_cons (as_set (i := 1) sc__law_deck.nd rfl (.inl rfl) (ae_callTy (cb_list rfl) (by rfl) T.b_list (by decide +kernel) (aa_cons (ae_slice sb_sl (ae_var (pv 0)) ao_none (ao_some ae_int)) aa_nil)))
      (ass_one (as_ret (ae_lst (aa_cons (ae_var (pv 1)) (aa_cons (ae_op ob_add ae_int (ae_op ob_mod (ae_callB (cb_sum rfl) (by rfl) T.b_sum (by decide +kernel) (aa_cons (ae_var (pv 1)) aa_nil)) ae_int)) (aa_cons ae_int aa_nil))))))), rd⟩
theorem w__law_draw (T : Txt K mg) {sp : ASp} (len : ∀ xs m q, sp xs m q → xs.length = 2)
    (rd : Reads K n__law_draw (t__law_draw K) sp) : Def P w K mg base (k + 1) "_law_draw" p__law_draw sp := okT T.t__law_draw sc__law_draw len fun f cdv A o s H E hr hgd => by
  have hu := room164 hr
  exact ⟨(t__law_draw K), (ass_cons (as_asg (ae_op ob_add (ae_ix (ob_ix hu) (ae_var (pv 0)) ae_int) ae_int) (ag_sub (ae_var (pv 0)) ae_int (st_set hu)))
      (ass_cons (as_set (i := 2) sc__law_draw.nd rfl (.inl rfl) (ae_ix (ob_ix hu) (ae_var (pv 0)) ae_int))
      (ass_cons (as_set (i := 3) sc__law_draw.nd rfl (.inl rfl) (ae_ix (ob_ix hu) (ae_var (pv 0)) ae_int))
      (ass_cons (as_if (at_neNil hu (ae_var (pv 2)))
        (ass_cons (as_set (i := 3) sc__law_draw.nd rfl (.inl rfl) (ae_popAt (ae_var (pv 2)) (aa_cons ae_int aa_nil)))
      (ass_cons (as_if (at_cmp ob_ge (ae_var (pv 3)) (ae_op ob_pow ae_int ae_int) (nomark _))
        (ass_cons (as_expr (ae_insert (ae_var (pv 2)) (aa_cons ae_int (aa_cons (ae_op ob_fdiv (ae_var (pv 3)) (ae_var (pv 1))) aa_nil))))
      (ass_one (as_ret (ae_op ob_mod (ae_var (pv 3)) (ae_var (pv 1))))))
        ass_nil)
      (ass_one (as_set (i := 3) sc__law_draw.nd rfl (.inl rfl) (ae_op ob_add (ae_var (pv 3)) (ae_ix (ob_ix hu) (ae_var (pv 0)) ae_int))))))
        ass_nil)
      (ass_cons (as_set (i := 4) sc__law_draw.nd rfl (.inl rfl) (ae_op ob_mod (ae_op ob_add (ae_op ob_add (ae_op ob_mul (ae_op ob_mod (ae_var (pv 3)) ae_int) ae_int) (ae_op ob_mul ae_int (ae_ix (ob_ix hu) (ae_var (pv 0)) ae_int))) ae_int) ae_int))
      (ass_cons (as_set (i := 4) sc__law_draw.nd rfl (.inl rfl) (ae_op ob_mod (ae_op ob_add (ae_op ob_add (ae_op ob_mul (ae_var (pv 4)) (ae_var (pv 4))) (ae_op ob_mul ae_int (ae_var (pv 4)))) (ae_ix (ob_ix hu) (ae_var (pv 0)) ae_int)) ae_int))
      (ass_cons (as_asg (ae_var (pv 4)) (ag_sub (ae_var (pv 0)) ae_int (st_set hu)))
      (ass_one (as_ret (ae_op ob_mod (ae_op ob_fdiv (ae_op ob_mod (ae_op ob_mul (ae_var (pv 4)) (ae_op ob_add (ae_var (pv 4)) ae_int)) ae_int) ae_int) (ae_var (pv 1)))))))))))), rd⟩
theorem w__law_names (T : Txt K mg) {sp__law_draw : ASp} (d__law_draw : Def P w K mg base k "_law_draw" p__law_draw sp__law_draw) {sp : ASp} (len : ∀ xs m q, sp xs m q → xs.length = 2)
    (rd : Reads K n__law_names (t__law_names K sp__law_draw) sp) : Def P w K mg base (k + 1) "_law_names" p__law_names sp := okT T.t__law_names sc__law_names len fun f cdv A o s H E hr hgd => by
  have hu := room164 hr
  exact ⟨(t__law_names K sp__law_draw), (ass_cons (as_set (i := 2) sc__law_names.nd rfl (.inr rfl) ae_str)
      (ass_cons (as_set (i := 3) sc__law_names.nd rfl (.inr rfl) (ae_lst (aa_cons ae_str (aa_cons ae_str (aa_cons ae_str (aa_cons ae_str (aa_cons ae_str (aa_cons ae_str (aa_cons ae_str (aa_cons ae_str (aa_cons ae_str (aa_cons ae_str (aa_cons ae_str (aa_cons ae_str aa_nil))))))))))))))
      (ass_cons (as_set (i := 4) sc__law_names.nd rfl (.inl rfl) (ae_callN d__law_draw hr (by omega) hgd rfl (aa_cons (ae_var (pv 0)) (aa_cons ae_int aa_nil))))
      (ass_cons (as_set (i := 5) sc__law_names.nd rfl (.inr rfl) (ae_callN d__law_draw hr (by omega) hgd rfl (aa_cons (ae_var (pv 0)) (aa_cons ae_int aa_nil))))
      (ass_cons (as_set (i := 6) sc__law_names.nd rfl (.inr rfl) (ae_join ae_str (ae_lc (own := [("_law_k", 9)]) rfl sc__law_names.nd (ai_range1 rfl T.b_range ae_int) (blkOk_by (own := [("_law_k", 9)]) (N := n__law_names) (sc := defScope s__law_names) (by decide +kernel)) (fun _ _ _ _ _ => (ag_name (pg_name (i := 9) sc__law_names.nd rfl (.inl rfl)))) (fun _ _ _ _ _ => ats_nil) (fun _ _ _ _ _ => (ae_ix (ob_ix hu) (ae_var (pv 2)) (ae_callN d__law_draw hr (by omega) hgd rfl (aa_cons (ae_var (pv 0)) (aa_cons ae_int aa_nil))))))))
      (ass_cons (as_set (i := 7) sc__law_names.nd rfl (.inr rfl) (ae_op ob_add ae_int (ae_callN d__law_draw hr (by omega) hgd rfl (aa_cons (ae_var (pv 0)) (aa_cons ae_int aa_nil)))))
      (ass_cons (as_set (i := 8) sc__law_names.nd rfl (.inr rfl) (ae_callN d__law_draw hr (by omega) hgd rfl (aa_cons (ae_var (pv 0)) (aa_cons (ae_var (pv 7)) aa_nil))))
      (ass_cons (as_if (at_cmp (ob_eq hu) (ae_var (pv 4)) ae_int (nomark _))
        (ass_one (as_ret (ae_lc (own := [("_law_k", 9)]) rfl sc__law_names.nd (ai_range1 rfl T.b_range (ae_var (pv 1))) (blkOk_by (own := [("_law_k", 9)]) (N := n__law_names) (sc := defScope s__law_names) (by decide +kernel)) (fun _ _ _ _ _ => (ag_name (pg_name (i := 9) sc__law_names.nd rfl (.inl rfl)))) (fun _ _ _ _ _ => ats_nil) (fun _ _ _ _ _ => (ae_ix (ob_ix hu) (ae_var (pv 3)) (ae_op ob_mod (ae_op ob_add (ae_var (pv 5)) (ae_op ob_mul ae_int (ae_var (pv 9)))) ae_int))))))
        ass_nil)
      (ass_cons (as_if (at_w (aw_and (at_cmp (ob_eq hu) (ae_var (pv 4)) ae_int (nomark _)) (aw_and1 (at_cmp ob_lt (ae_var (pv 1)) ae_int (nomark _)))))
        (ass_one (as_ret (ae_lc (own := [("_law_k", 9)]) rfl sc__law_names.nd (ai_range1 rfl T.b_range (ae_var (pv 1))) (blkOk_by (own := [("_law_k", 9)]) (N := n__law_names) (sc := defScope s__law_names) (by decide +kernel)) (fun _ _ _ _ _ => (ag_name (pg_name (i := 9) sc__law_names.nd rfl (.inl rfl)))) (fun _ _ _ _ _ => ats_nil) (fun _ _ _ _ _ => (ae_slice sb_sl (ae_var (pv 6)) ao_none (ao_some (ae_op ob_add ae_int (ae_var (pv 9)))))))))
        ass_nil)
      (ass_one (as_ret (ae_lc (own := [("_law_k", 9)]) rfl sc__law_names.nd (ai_range1 rfl T.b_range (ae_var (pv 1))) (blkOk_by (own := [("_law_k", 9)]) (N := n__law_names) (sc := defScope s__law_names) (by decide +kernel)) (fun _ _ _ _ _ => (ag_name (pg_name (i := 9) sc__law_names.nd rfl (.inl rfl)))) (fun _ _ _ _ _ => ats_nil) (fun _ _ _ _ _ => (ae_op ob_add (ae_op ob_add (ae_slice sb_sl (ae_var (pv 6)) ao_none (ao_some (ae_var (pv 8)))) (ae_ix (ob_ix hu) (ae_var (pv 2)) (ae_op ob_mod (ae_op ob_add (ae_var (pv 5)) (ae_op ob_mul ae_int (ae_var (pv 9)))) ae_int))) (ae_slice sb_sl (ae_var (pv 6)) (ao_some (ae_op ob_add (ae_var (pv 8)) ae_int)) (ao_some (ae_var (pv 7)))))))))))))))))), rd⟩
theorem w__law_number (T : Txt K mg) {sp__law_draw : ASp} (d__law_draw : Def P w K mg base k "_law_draw" p__law_draw sp__law_draw) {sp : ASp} (len : ∀ xs m q, sp xs m q → xs.length = 1)
    (rd : Reads K n__law_number (t__law_number K sp__law_draw) sp) : Def P w K mg base (k + 1) "_law_number" p__law_number sp := okT T.t__law_number sc__law_number len fun f cdv A o s H E hr hgd => by
  have hu := room164 hr
  exact ⟨(t__law_number K sp__law_draw), (ass_cons (as_set (i := 1) sc__law_number.nd rfl (.inl rfl) (ae_op ob_add (ae_op ob_mul (ae_callN d__law_draw hr (by omega) hgd rfl (aa_cons (ae_var (pv 0)) (aa_cons (ae_op ob_pow ae_int ae_int) aa_nil))) (ae_op ob_pow ae_int ae_int)) (ae_callN d__law_draw hr (by omega) hgd rfl (aa_cons (ae_var (pv 0)) (aa_cons (ae_op ob_pow ae_int ae_int) aa_nil)))))
      (ass_one (as_ret (ae_ix (ob_ix hu) (ae_lst (aa_cons ae_int (aa_cons ae_int (aa_cons ae_int (aa_cons ae_int (aa_cons ae_int (aa_cons ae_int (aa_cons ae_int (aa_cons (ae_un ub_neg ae_int) (aa_cons (ae_un ub_neg ae_int) (aa_cons (ae_op ob_pow ae_int ae_int) (aa_cons (ae_var (pv 1)) (aa_cons (ae_op ob_sub ae_int (ae_var (pv 1))) aa_nil))))))))))))) (ae_callN d__law_draw hr (by omega) hgd rfl (aa_cons (ae_var (pv 0)) (aa_cons ae_int aa_nil))))))), rd⟩
theorem w__law_tip (T : Txt K mg) {sp__law_draw : ASp} {sp__law_number : ASp} (d__law_draw : Def P w K mg base k "_law_draw" p__law_draw sp__law_draw) (d__law_number : Def P w K mg base k "_law_number" p__law_number sp__law_number) {sp : ASp} (len : ∀ xs m q, sp xs m q → xs.length = 3)
    (rd : Reads K n__law_tip (t__law_tip K sp__law_draw sp__law_number) sp) : Def P w K mg base (k + 1) "_law_tip" p__law_tip sp := okT T.t__law_tip sc__law_tip len fun f cdv A o s H E hr hgd => by
  have hu := room164 hr
  exact ⟨(t__law_tip K sp__law_draw sp__law_number), (ass_cons (as_set (i := 3) sc__law_tip.nd rfl (.inl rfl) (ae_callN d__law_draw hr (by omega) hgd rfl (aa_cons (ae_var (pv 0)) (aa_cons ae_int aa_nil))))
      (ass_cons (as_if (at_w (aw_and (at_cmp ob_lt (ae_var (pv 3)) ae_int (nomark _)) (aw_and1 (at_neNil hu (ae_var (pv 2))))))
        (ass_one (as_ret (ae_tup (aa_cons ae_str (aa_cons (ae_ix (ob_ix hu) (ae_var (pv 2)) (ae_callN d__law_draw hr (by omega) hgd rfl (aa_cons (ae_var (pv 0)) (aa_cons (ae_callB cb_len (by rfl) T.b_len (by decide +kernel) (aa_cons (ae_var (pv 2)) aa_nil)) aa_nil)))) aa_nil)))))
        ass_nil)
      (ass_cons (as_if (at_cmp (ob_eq hu) (ae_var (pv 3)) ae_int (nomark _))
        (ass_one (as_ret (ae_tup aa_nil)))
        ass_nil)
      (ass_cons (as_if (at_cmp ob_lt (ae_var (pv 3)) ae_int (nomark _))
        (ass_one (as_ret (ae_ix (ob_ix hu) (ae_var (pv 1)) (ae_callN d__law_draw hr (by omega) hgd rfl (aa_cons (ae_var (pv 0)) (aa_cons (ae_callB cb_len (by rfl) T.b_len (by decide +kernel) (aa_cons (ae_var (pv 1)) aa_nil)) aa_nil))))))
        ass_nil)
      (ass_one (as_ret (ae_callN d__law_number hr (by omega) hgd rfl (aa_cons (ae_var (pv 0)) aa_nil)))))))), rd⟩
theorem w__law_term (T : Txt K mg) {sp__law_draw : ASp} {sp__law_term : ASp} {sp__law_tip : ASp} (d__law_draw : Def P w K mg base k "_law_draw" p__law_draw sp__law_draw) (d__law_term : Def P w K mg base k "_law_term" p__law_term sp__law_term) (d__law_tip : Def P w K mg base k "_law_tip" p__law_tip sp__law_tip) {sp : ASp} (len : ∀ xs m q, sp xs m q → xs.length = 5)
    (rd : Reads K n__law_term (t__law_term K sp__law_draw sp__law_term sp__law_tip) sp) : Def P w K mg base (k + 1) "_law_term" p__law_term sp := okT T.t__law_term sc__law_term len fun f cdv A o s H E hr hgd => by
  have hu := room164 hr
  exact ⟨(t__law_term K sp__law_draw sp__law_term sp__law_tip), (ass_cons (as_set (i := 5) sc__law_term.nd rfl (.inl rfl) (ae_callN d__law_draw hr (by omega) hgd rfl (aa_cons (ae_var (pv 0)) (aa_cons ae_int aa_nil))))
      (ass_cons (as_if (at_w (aw_or (at_cmp ob_lt (ae_var (pv 3)) ae_int (nomark _)) (aw_or (at_cmp ob_lt (ae_ix (ob_ix hu) (ae_var (pv 4)) ae_int) ae_int (nomark _)) (aw_or1 (at_cmp (ob_eq hu) (ae_var (pv 5)) ae_int (nomark _))))))
        (ass_one (as_ret (ae_callN d__law_tip hr (by omega) hgd rfl (aa_cons (ae_var (pv 0)) (aa_cons (ae_var (pv 1)) (aa_cons (ae_var (pv 2)) aa_nil))))))
        ass_nil)
      (ass_cons (as_asg (ae_op ob_sub (ae_ix (ob_ix hu) (ae_var (pv 4)) ae_int) ae_int) (ag_sub (ae_var (pv 4)) ae_int (st_set hu)))
      (ass_cons (as_set (i := 6) sc__law_term.nd rfl (.inl rfl) (ae_callN d__law_term hr (by omega) hgd rfl (aa_cons (ae_var (pv 0)) (aa_cons (ae_var (pv 1)) (aa_cons (ae_var (pv 2)) (aa_cons (ae_ix (ob_ix hu) (ae_lst (aa_cons (ae_op ob_sub (ae_var (pv 3)) ae_int) (aa_cons ae_int aa_nil))) (ae_callTy cb_int (by rfl) T.b_int (by decide +kernel) (aa_cons (ae_cmp (ob_eq hu) (ae_var (pv 5)) ae_int (nomark _)) aa_nil))) (aa_cons (ae_var (pv 4)) aa_nil)))))))
      (ass_one (as_ret (ae_tup (aa_cons (ae_var (pv 6)) (aa_cons (ae_callN d__law_term hr (by omega) hgd rfl (aa_cons (ae_var (pv 0)) (aa_cons (ae_var (pv 1)) (aa_cons (ae_var (pv 2)) (aa_cons (ae_op ob_sub (ae_var (pv 3)) ae_int) (aa_cons (ae_var (pv 4)) aa_nil)))))) aa_nil))))))))), rd⟩
theorem w__law_any_term (T : Txt K mg) {sp__law_draw : ASp} {sp__law_term : ASp} {sp__law_tip : ASp} (d__law_draw : Def P w K mg base k "_law_draw" p__law_draw sp__law_draw) (d__law_term : Def P w K mg base k "_law_term" p__law_term sp__law_term) (d__law_tip : Def P w K mg base k "_law_tip" p__law_tip sp__law_tip) {sp : ASp} (len : ∀ xs m q, sp xs m q → xs.length = 3)
    (rd : Reads K n__law_any_term (t__law_any_term K sp__law_draw sp__law_term sp__law_tip) sp) : Def P w K mg base (k + 1) "_law_any_term" p__law_any_term sp := okT T.t__law_any_term sc__law_any_term len fun f cdv A o s H E hr hgd => by
  have hu := room164 hr
  exact ⟨(t__law_any_term K sp__law_draw sp__law_term sp__law_tip), (ass_cons (as_set (i := 3) sc__law_any_term.nd rfl (.inl rfl) (ae_callN d__law_draw hr (by omega) hgd rfl (aa_cons (ae_var (pv 0)) (aa_cons ae_int aa_nil))))
      (ass_cons (as_if (at_cmp (ob_eq hu) (ae_var (pv 3)) ae_int (nomark _))
        (ass_one (as_ret (ae_callN d__law_term hr (by omega) hgd rfl (aa_cons (ae_var (pv 0)) (aa_cons (ae_var (pv 1)) (aa_cons (ae_var (pv 2)) (aa_cons ae_int (aa_cons (ae_lst (aa_cons ae_int aa_nil)) aa_nil))))))))
        ass_nil)
      (ass_cons (as_if (at_cmp ob_gt (ae_var (pv 3)) ae_int (nomark _))
        (ass_cons (as_set (i := 4) sc__law_any_term.nd rfl (.inl rfl) (ae_callN d__law_tip hr (by omega) hgd rfl (aa_cons (ae_var (pv 0)) (aa_cons (ae_var (pv 1)) (aa_cons (ae_var (pv 2)) aa_nil)))))
      (ass_cons (as_for PassesOwn.never rfl (ai_range1 rfl T.b_range (ae_op ob_add ae_int (ae_callN d__law_draw hr (by omega) hgd rfl (aa_cons (ae_var (pv 0)) (aa_cons ae_int aa_nil))))) (ag_name (pg_name (i := 5) sc__law_any_term.nd rfl (.inl rfl)))
        (ass_cons (as_set (i := 6) sc__law_any_term.nd rfl (.inl rfl) (ae_callN d__law_tip hr (by omega) hgd rfl (aa_cons (ae_var (pv 0)) (aa_cons (ae_var (pv 1)) (aa_cons (ae_var (pv 2)) aa_nil)))))
      (ass_one (as_set (i := 4) sc__law_any_term.nd rfl (.inl rfl) (ae_ix (ob_ix hu) (ae_lst (aa_cons (ae_tup (aa_cons (ae_var (pv 6)) (aa_cons (ae_var (pv 4)) aa_nil))) (aa_cons (ae_tup (aa_cons (ae_var (pv 4)) (aa_cons (ae_var (pv 6)) aa_nil))) aa_nil))) (ae_op ob_sub (ae_var (pv 3)) ae_int))))))
      (ass_one (as_ret (ae_var (pv 4))))))
        ass_nil)
      (ass_one (as_ret (ae_callN d__law_term hr (by omega) hgd rfl (aa_cons (ae_var (pv 0)) (aa_cons (ae_var (pv 1)) (aa_cons (ae_var (pv 2)) (aa_cons (ae_ix (ob_ix hu) (ae_lst (aa_cons ae_int (aa_cons ae_int (aa_cons ae_int aa_nil)))) (ae_callN d__law_draw hr (by omega) hgd rfl (aa_cons (ae_var (pv 0)) (aa_cons ae_int aa_nil)))) (aa_cons (ae_lst (aa_cons (ae_ix (ob_ix hu) (ae_lst (aa_cons ae_int (aa_cons ae_int (aa_cons ae_int aa_nil)))) (ae_callN d__law_draw hr (by omega) hgd rfl (aa_cons (ae_var (pv 0)) (aa_cons ae_int aa_nil)))) aa_nil)) aa_nil))))))))))), rd⟩
theorem w__law_unknowns (T : Txt K mg) {sp__law_unknowns : ASp} (d__law_unknowns : Def P w K mg base k "_law_unknowns" p__law_unknowns sp__law_unknowns) {sp : ASp} (len : ∀ xs m q, sp xs m q → xs.length = 1)
    (rd : Reads K n__law_unknowns (t__law_unknowns K sp__law_unknowns) sp) : Def P w K mg base (k + 1) "_law_unknowns" p__law_unknowns sp := okT T.t__law_unknowns sc__law_unknowns len fun f cdv A o s H E hr hgd => by
  have hu := room164 hr
  exact ⟨(t__law_unknowns K sp__law_unknowns), (ass_cons (as_if (at_w (aw_or (at_not (at_val (ae_callB cb_isi (by rfl) T.b_isinstance (by decide +kernel) (aa_cons (ae_var (pv 0)) (aa_cons (ae_ty (n := "tuple") rfl T.b_tuple (by decide +kernel)) aa_nil))))) (aw_or1 (at_cmp (ob_eq hu) (ae_var (pv 0)) (ae_tup aa_nil) (nomark _)))))
        (ass_one (as_ret (ae_lst aa_nil)))
        ass_nil)
      (ass_cons (as_if (at_cmp (ob_eq hu) (ae_ix (ob_ix hu) (ae_var (pv 0)) ae_int) ae_str (nomark _))
        (ass_one (as_ret (ae_lst (aa_cons (ae_ix (ob_ix hu) (ae_var (pv 0)) ae_int) aa_nil))))
        ass_nil)
      (ass_cons (as_set (i := 1) sc__law_unknowns.nd rfl (.inr rfl) (ae_callN d__law_unknowns hr (by omega) hgd rfl (aa_cons (ae_ix (ob_ix hu) (ae_var (pv 0)) ae_int) aa_nil)))
      (ass_one (as_ret (ae_op ob_add (ae_var (pv 1)) (ae_lc (own := [("_law_number_here", 2)]) rfl sc__law_unknowns.nd (ai_seq (ae_callN d__law_unknowns hr (by omega) hgd rfl (aa_cons (ae_ix (ob_ix hu) (ae_var (pv 0)) ae_int) aa_nil))) (blkOk_by (own := [("_law_number_here", 2)]) (N := n__law_unknowns) (sc := defScope s__law_unknowns) (by decide +kernel)) (fun _ _ _ _ _ => (ag_name (pg_name (i := 2) sc__law_unknowns.nd rfl (.inl rfl)))) (fun _ _ _ _ _ => (ats_one (at_cmp (ob_notIn hu) (ae_var (pv 2)) (ae_var (pv 1)) rfl))) (fun _ _ _ _ _ => (ae_var (pv 2)))))))))), rd⟩
theorem w__law_numbered (T : Txt K mg) {sp__law_numbered : ASp} (d__law_numbered : Def P w K mg base k "_law_numbered" p__law_numbered sp__law_numbered) {sp : ASp} (len : ∀ xs m q, sp xs m q → xs.length = 2)
    (rd : Reads K n__law_numbered (t__law_numbered K sp__law_numbered) sp) : Def P w K mg base (k + 1) "_law_numbered" p__law_numbered sp := okT T.t__law_numbered sc__law_numbered len fun f cdv A o s H E hr hgd => by
  have hu := room164 hr
  exact ⟨(t__law_numbered K sp__law_numbered), (ass_cons (as_if (at_w (aw_or (at_not (at_val (ae_callB cb_isi (by rfl) T.b_isinstance (by decide +kernel) (aa_cons (ae_var (pv 0)) (aa_cons (ae_ty (n := "tuple") rfl T.b_tuple (by decide +kernel)) aa_nil))))) (aw_or1 (at_cmp (ob_eq hu) (ae_var (pv 0)) (ae_tup aa_nil) (nomark _)))))
        (ass_one (as_ret (ae_var (pv 0))))
        ass_nil)
      (ass_cons (as_if (at_cmp (ob_eq hu) (ae_ix (ob_ix hu) (ae_var (pv 0)) ae_int) ae_str (nomark _))
        (ass_one (as_ret (ae_tup (aa_cons ae_str (aa_cons (ae_ix (ob_ix hu) (ae_var (pv 1)) (ae_ix (ob_ix hu) (ae_var (pv 0)) ae_int)) aa_nil)))))
        ass_nil)
      (ass_one (as_ret (ae_tup (aa_cons (ae_callN d__law_numbered hr (by omega) hgd rfl (aa_cons (ae_ix (ob_ix hu) (ae_var (pv 0)) ae_int) (aa_cons (ae_var (pv 1)) aa_nil))) (aa_cons (ae_callN d__law_numbered hr (by omega) hgd rfl (aa_cons (ae_ix (ob_ix hu) (ae_var (pv 0)) ae_int) (aa_cons (ae_var (pv 1)) aa_nil))) aa_nil))))))), rd⟩
theorem w__law_due (T : Txt K mg) {sp__law_numbered : ASp} {sp__law_unknowns : ASp} (d__law_numbered : Def P w K mg base k "_law_numbered" p__law_numbered sp__law_numbered) (d__law_unknowns : Def P w K mg base k "_law_unknowns" p__law_unknowns sp__law_unknowns) {sp : ASp} (len : ∀ xs m q, sp xs m q → xs.length = 1)
    (rd : Reads K n__law_due (t__law_due K sp__law_numbered sp__law_unknowns) sp) : Def P w K mg base (k + 1) "_law_due" p__law_due sp := okT T.t__law_due sc__law_due len fun f cdv A o s H E hr hgd => by
  have hu := room164 hr
  exact ⟨(t__law_due K sp__law_numbered sp__law_unknowns), (ass_cons (as_set (i := 1) sc__law_due.nd rfl (.inr rfl) ae_dnew)
      (ass_cons (as_for PassesOwn.never rfl (ai_seq (ae_var (pv 0))) (ag_name (pg_name (i := 2) sc__law_due.nd rfl (.inl rfl)))
        (ass_one (as_for PassesOwn.never rfl (ai_seq (ae_callN d__law_unknowns hr (by omega) hgd rfl (aa_cons (ae_var (pv 2)) aa_nil))) (ag_name (pg_name (i := 3) sc__law_due.nd rfl (.inl rfl)))
        (ass_one (as_expr (ae_setd (ae_var (pv 1)) (ae_var (pv 3)) (ae_callB cb_len (by rfl) T.b_len (by decide +kernel) (aa_cons (ae_var (pv 1)) aa_nil))))))))
      (ass_one (as_ret (ae_callTy cb_tuple (by rfl) T.b_tuple (by decide +kernel) (aa_cons (ae_lc (own := [("_law_term_here", 2)]) rfl sc__law_due.nd (ai_seq (ae_var (pv 0))) (blkOk_by (own := [("_law_term_here", 2)]) (N := n__law_due) (sc := defScope s__law_due) (by decide +kernel)) (fun _ _ _ _ _ => (ag_name (pg_name (i := 2) sc__law_due.nd rfl (.inl rfl)))) (fun _ _ _ _ _ => ats_nil) (fun _ _ _ _ _ => (ae_callN d__law_numbered hr (by omega) hgd rfl (aa_cons (ae_var (pv 2)) (aa_cons (ae_var (pv 1)) aa_nil))))) aa_nil)))))), rd⟩
theorem w_law (T : Txt K mg) {sp__law_any_term : ASp} {sp__law_deck : ASp} {sp__law_draw : ASp} {sp__law_due : ASp} {sp__law_names : ASp} {sp__law_numbered : ASp} {sp_renamed : ASp} (d__law_any_term : Def P w K mg base k "_law_any_term" p__law_any_term sp__law_any_term) (d__law_deck : Def P w K mg base k "_law_deck" p__law_deck sp__law_deck) (d__law_draw : Def P w K mg base k "_law_draw" p__law_draw sp__law_draw) (d__law_due : Def P w K mg base k "_law_due" p__law_due sp__law_due) (d__law_names : Def P w K mg base k "_law_names" p__law_names sp__law_names) (d__law_numbered : Def P w K mg base k "_law_numbered" p__law_numbered sp__law_numbered) (d_renamed : Def P w K mg base k "renamed" p_renamed sp_renamed) {sp : ASp} (len : ∀ xs m q, sp xs m q → xs.length = 1)
    (rd : Reads K n_law (t_law K sp__law_any_term sp__law_deck sp__law_draw sp__law_due sp__law_names sp__law_numbered sp_renamed) sp) : Def P w K mg base (k + 1) "law" p_law sp := okT T.t_law sc_law len fun f cdv A o s H E hr hgd => by
  have hu := room164 hr
  exact ⟨(t_law K sp__law_any_term sp__law_deck sp__law_draw sp__law_due sp__law_names sp__law_numbered sp_renamed), (ass_cons (as_set (i := 1) sc_law.nd rfl (.inr rfl) (ae_callN d__law_deck hr (by omega) hgd rfl (aa_cons (ae_var (pv 0)) aa_nil)))
      (ass_cons (as_set (i := 2) sc_law.nd rfl (.inr rfl) (ae_callN d__law_names hr (by omega) hgd rfl (aa_cons (ae_var (pv 1)) (aa_cons ae_int aa_nil))))
      (ass_cons (as_for PassesOwn.never rfl (ai_range1 rfl T.b_range ae_int) (ag_name (pg_name (i := 3) sc_law.nd rfl (.inl rfl)))
        (ass_cons (as_set (i := 4) sc_law.nd rfl (.inl rfl) (ae_cmp (ob_eq hu) (ae_callN d__law_draw hr (by omega) hgd rfl (aa_cons (ae_var (pv 1)) (aa_cons ae_int aa_nil))) ae_int (nomark _)))
      (ass_cons (as_set (i := 5) sc_law.nd rfl (.inr rfl) (ae_ix (ob_ix hu) (ae_lst (aa_cons (ae_lst (aa_cons ae_int (aa_cons ae_int (aa_cons ae_int aa_nil)))) (aa_cons (ae_lst (aa_cons ae_int (aa_cons ae_int (aa_cons ae_int (aa_cons ae_int (aa_cons ae_int (aa_cons ae_int aa_nil))))))) (aa_cons (ae_lst (aa_cons ae_int aa_nil)) aa_nil)))) (ae_callN d__law_draw hr (by omega) hgd rfl (aa_cons (ae_var (pv 1)) (aa_cons ae_int aa_nil)))))
      (ass_cons (as_set (i := 6) sc_law.nd rfl (.inl rfl) (ae_ix (ob_ix hu) (ae_lst (aa_cons (ae_callN d__law_draw hr (by omega) hgd rfl (aa_cons (ae_var (pv 1)) (aa_cons ae_int aa_nil))) (aa_cons ae_int aa_nil))) (ae_callTy cb_int (by rfl) T.b_int (by decide +kernel) (aa_cons (ae_var (pv 4)) aa_nil))))
      (ass_cons (as_set (i := 7) sc_law.nd rfl (.inl rfl) (ae_callTy cb_tuple (by rfl) T.b_tuple (by decide +kernel) (aa_cons (ae_lc (own := [("_law_k", 10)]) rfl sc_law.nd (ai_range1 rfl T.b_range (ae_var (pv 6))) (blkOk_by (own := [("_law_k", 10)]) (N := n_law) (sc := defScope s_law) (by decide +kernel)) (fun _ _ _ _ _ => (ag_name (pg_name (i := 10) sc_law.nd rfl (.inl rfl)))) (fun _ _ _ _ _ => ats_nil) (fun _ _ _ _ _ => (ae_callN d__law_any_term hr (by omega) hgd rfl (aa_cons (ae_var (pv 1)) (aa_cons (ae_var (pv 2)) (aa_cons (ae_var (pv 5)) aa_nil)))))) aa_nil)))
      (ass_cons (as_set (i := 8) sc_law.nd rfl (.inl rfl) (ae_callN d__law_due hr (by omega) hgd rfl (aa_cons (ae_var (pv 7)) aa_nil)))
      (ass_cons (as_if (at_w (aw_or (at_cmp (ob_ne hu) (ae_callB (cb_repr hu hgd) (by rfl) T.b_repr (by decide +kernel) (aa_cons (ae_callN d_renamed hr (by omega) hgd rfl (aa_cons (ae_var (pv 7)) aa_nil)) aa_nil)) (ae_callB (cb_repr hu hgd) (by rfl) T.b_repr (by decide +kernel) (aa_cons (ae_var (pv 8)) aa_nil)) (nomark _)) (aw_or1 (at_cmp (ob_ne hu) (ae_callN d_renamed hr (by omega) hgd rfl (aa_cons (ae_var (pv 8)) aa_nil)) (ae_var (pv 8)) (nomark _)))))
        (ass_one (as_ret ae_bl))
        ass_nil)
      (ass_cons (as_set (i := 9) sc_law.nd rfl (.inr rfl) ae_dnew)
      (ass_cons (as_for PassesOwn.never rfl (ai_enum (by rfl) T.b_enumerate (ae_var (pv 5))) (ag_tup rfl (ags_cons (ag_name (pg_name (i := 10) sc_law.nd rfl (.inl rfl))) (ags_cons (ag_name (pg_name (i := 11) sc_law.nd rfl (.inl rfl))) ags_nil)))
        (ass_one (as_asg (ae_ix (ob_ix hu) (ae_lst (aa_cons ae_int (aa_cons ae_int (aa_cons ae_int (aa_cons ae_int (aa_cons ae_int (aa_cons ae_int aa_nil))))))) (ae_op ob_mod (ae_op ob_add (ae_var (pv 10)) (ae_var (pv 3))) ae_int)) (ag_sub (ae_var (pv 9)) (ae_var (pv 11)) (st_set hu)))))
      (ass_cons (as_set (i := 12) sc_law.nd rfl (.inl rfl) (ae_callTy cb_tuple (by rfl) T.b_tuple (by decide +kernel) (aa_cons (ae_lc (own := [("_law_term_here", 13)]) rfl sc_law.nd (ai_seq (ae_var (pv 7))) (blkOk_by (own := [("_law_term_here", 13)]) (N := n_law) (sc := defScope s_law) (by decide +kernel)) (fun _ _ _ _ _ => (ag_name (pg_name (i := 13) sc_law.nd rfl (.inl rfl)))) (fun _ _ _ _ _ => ats_nil) (fun _ _ _ _ _ => (ae_callN d__law_numbered hr (by omega) hgd rfl (aa_cons (ae_var (pv 13)) (aa_cons (ae_var (pv 9)) aa_nil))))) aa_nil)))
      (ass_one (as_if (at_w (aw_or (at_cmp (ob_ne hu) (ae_callN d_renamed hr (by omega) hgd rfl (aa_cons (ae_var (pv 12)) aa_nil)) (ae_var (pv 8)) (nomark _)) (aw_or1 (at_cmp (ob_ne hu) (ae_callB (cb_repr hu hgd) (by rfl) T.b_repr (by decide +kernel) (aa_cons (ae_callN d_renamed hr (by omega) hgd rfl (aa_cons (ae_rev (ae_var (pv 7))) aa_nil)) aa_nil)) (ae_callB (cb_repr hu hgd) (by rfl) T.b_repr (by decide +kernel) (aa_cons (ae_callN d__law_due hr (by omega) hgd rfl (aa_cons (ae_rev (ae_var (pv 7))) aa_nil)) aa_nil)) (nomark _)))))
        (ass_one (as_ret ae_bl))
        ass_nil))))))))))))
      (ass_one (as_ret (ae_cmp (ob_eq hu) (ae_callN d_renamed hr (by omega) hgd rfl (aa_cons (ae_tup aa_nil) aa_nil)) (ae_tup aa_nil) (nomark _))))))), rd⟩
end
end K03

namespace K03
open PySem PySem.Spec PyProof.Rows L2 Ab
def spDraw : ASp := fun xs m q => match xs with
  | [.ref d, .int M] => (∃ c, m d = some (.deck c)) ∧ 0 < M ∧ M < 1073741824 ∧ ∀ r : Int, 0 ≤ r → r < M → q (.int r) m
  | _ => False
variable {K : PySem.W.Frag}
theorem r__law_draw : Reads K n__law_draw (t__law_draw K) spDraw := by
  intro H xs m q h g
  unfold spDraw at h
  split at h
  · rename_i d M
    obtain ⟨⟨c, hd⟩, h0, h1, k⟩ := h
    obtain ⟨ns, z, n, l1, l2, l3, l4, ne, g1⟩ := deck_open g hd
    refine ⟨_, g1, ?_⟩
    rw [show startA n__law_draw [.ref d, .int M] = [some (.ref d), some (.int M), none, none, none] from rfl]
    have own := g.own
    have ne' : c ≠ d := Ne.symm ne
    have kept : ∀ o u b w, b ≠ d → b ≠ c → m b = some w → updA (updA m c o) d u b = some w := fun o u b w h1 h2 e => by rw [updA_ne h1, updA_ne h2, e]
    generalize hm1 : updA (updA m c (.lst (ns.map AV.int))) d (.lst [.ref c, .int z, .int n]) = m1
    have e1 : m1 d = some (.lst [.ref c, .int z, .int n]) := by rw [← hm1, updA_same]
    have e2 : m1 c = some (.lst (ns.map AV.int)) := by rw [← hm1, updA_ne ne', updA_same]
    have e3 : ∀ b o, b ≠ d → b ≠ c → m b = some o → m1 b = some o := fun b o h1 h2 e => by rw [← hm1, updA_ne h1, updA_ne h2, e]
    unfold t__law_draw
    refine seq_i ?_
    simp only [aNext, aAsg, aName, aVar, slot, put, aC, aOp, aUn, aTest, aChain, aAnd, aOr, aNot, aAndV, aOrV, aNotV, aIf, aNil, aCons, aTup, aLst, aCB, aBM, aSl, aPart, aNoPart, aDrop, aRet, aIfS, aPar, aAug, aSub, aUnp, aGNil, aGCons, aCall, aYes, aNilEq, aJoin, wRange1, wAny, wEnum, wEnumD, wKeys, wVals, wItems, lkAt, aLc, aDc, aDc2, aDNew, aRev, aSetd, aGet1, aGet2, isD, dAt,  wipeA, List.set_cons_zero, List.set_cons_succ, asStrs_map, bSub, bAdd, bIAdd, bNeg, bIx, bSl, bInt, bSet, bPop, bInsert, bAppend, bExtend, bML, bEqB, bIsB, bInB, one, bLen, bList, bTuple, bSum, bToInt, bIsi, bRepr, tyA, at0, at1, at2, at3, ixL0, ixL1, ixL2, set0, set1, set2, updA_same, updA_twice, List.append_nil, List.cons_append, List.nil_append, id_eq, e1]
    refine seq_n ?_
    simp only [aNext, aAsg, aName, aVar, slot, put, aC, aOp, aUn, aTest, aChain, aAnd, aOr, aNot, aAndV, aOrV, aNotV, aIf, aNil, aCons, aTup, aLst, aCB, aBM, aSl, aPart, aNoPart, aDrop, aRet, aIfS, aPar, aAug, aSub, aUnp, aGNil, aGCons, aCall, aYes, aNilEq, aJoin, wRange1, wAny, wEnum, wEnumD, wKeys, wVals, wItems, lkAt, aLc, aDc, aDc2, aDNew, aRev, aSetd, aGet1, aGet2, isD, dAt,  wipeA, List.set_cons_zero, List.set_cons_succ, asStrs_map, bSub, bAdd, bIAdd, bNeg, bIx, bSl, bInt, bSet, bPop, bInsert, bAppend, bExtend, bML, bEqB, bIsB, bInB, one, bLen, bList, bTuple, bSum, bToInt, bIsi, bRepr, tyA, at0, at1, at2, at3, ixL0, ixL1, ixL2, set0, set1, set2, updA_same, updA_twice, List.append_nil, List.cons_append, List.nil_append, id_eq]
    refine seq_n ?_
    simp only [aNext, aAsg, aName, aVar, slot, put, aC, aOp, aUn, aTest, aChain, aAnd, aOr, aNot, aAndV, aOrV, aNotV, aIf, aNil, aCons, aTup, aLst, aCB, aBM, aSl, aPart, aNoPart, aDrop, aRet, aIfS, aPar, aAug, aSub, aUnp, aGNil, aGCons, aCall, aYes, aNilEq, aJoin, wRange1, wAny, wEnum, wEnumD, wKeys, wVals, wItems, lkAt, aLc, aDc, aDc2, aDNew, aRev, aSetd, aGet1, aGet2, isD, dAt,  wipeA, List.set_cons_zero, List.set_cons_succ, asStrs_map, bSub, bAdd, bIAdd, bNeg, bIx, bSl, bInt, bSet, bPop, bInsert, bAppend, bExtend, bML, bEqB, bIsB, bInB, one, bLen, bList, bTuple, bSum, bToInt, bIsi, bRepr, tyA, at0, at1, at2, at3, ixL0, ixL1, ixL2, set0, set1, set2, updA_same, updA_twice, List.append_nil, List.cons_append, List.nil_append, id_eq]
    refine .keep ?_
    refine seq_join (fun a' m' => ∃ (ns' : List Int) (cell : Int), a' = [some (.ref d), some (.int M), some (.ref c), some (.int cell), none] ∧ m' d = some (.lst [.ref c, .int z, .int (n + 1)]) ∧ m' c = some (.lst (ns'.map AV.int)) ∧ ns'.length ≤ 63 ∧
      ∀ b o, b ≠ d → b ≠ c → m b = some o → m' b = some o) ?_ ?_
    · rintro _ m2 ⟨ns', cell, rfl, f1, f2, f3, f4⟩
      refine seq_i ?_
      simp only [aNext, aAsg, aName, aVar, slot, put, aC, aOp, aUn, aTest, aChain, aAnd, aOr, aNot, aAndV, aOrV, aNotV, aIf, aNil, aCons, aTup, aLst, aCB, aBM, aSl, aPart, aNoPart, aDrop, aRet, aIfS, aPar, aAug, aSub, aUnp, aGNil, aGCons, aCall, aYes, aNilEq, aJoin, wRange1, wAny, wEnum, wEnumD, wKeys, wVals, wItems, lkAt, aLc, aDc, aDc2, aDNew, aRev, aSetd, aGet1, aGet2, isD, dAt,  wipeA, List.set_cons_zero, List.set_cons_succ, asStrs_map, bSub, bAdd, bIAdd, bNeg, bIx, bSl, bInt, bSet, bPop, bInsert, bAppend, bExtend, bML, bEqB, bIsB, bInB, one, bLen, bList, bTuple, bSum, bToInt, bIsi, bRepr, tyA, at0, at1, at2, at3, ixL0, ixL1, ixL2, set0, set1, set2, updA_same, updA_twice, List.append_nil, List.cons_append, List.nil_append, id_eq, f1]
      have b0 := Int.emod_nonneg cell (b := 2147483629) (by decide)
      have b1 := Int.emod_lt_of_pos cell (b := 2147483629) (by decide)
      refine ⟨by decide, .inr (by decide), .inl (by decide), by decide, ?_⟩
      generalize hx : (cell % 2147483629 * 48271 + 6997 * (n + 1) + 17) % 2147483647 = x
      have b2 : 0 ≤ x := by rw [← hx]; exact Int.emod_nonneg _ (by decide)
      have b3 : x < 2147483647 := by rw [← hx]; exact Int.emod_lt_of_pos _ (by decide)
      refine seq_n ?_
      simp only [aNext, aAsg, aName, aVar, slot, put, aC, aOp, aUn, aTest, aChain, aAnd, aOr, aNot, aAndV, aOrV, aNotV, aIf, aNil, aCons, aTup, aLst, aCB, aBM, aSl, aPart, aNoPart, aDrop, aRet, aIfS, aPar, aAug, aSub, aUnp, aGNil, aGCons, aCall, aYes, aNilEq, aJoin, wRange1, wAny, wEnum, wEnumD, wKeys, wVals, wItems, lkAt, aLc, aDc, aDc2, aDNew, aRev, aSetd, aGet1, aGet2, isD, dAt,  wipeA, List.set_cons_zero, List.set_cons_succ, asStrs_map, bSub, bAdd, bIAdd, bNeg, bIx, bSl, bInt, bSet, bPop, bInsert, bAppend, bExtend, bML, bEqB, bIsB, bInB, one, bLen, bList, bTuple, bSum, bToInt, bIsi, bRepr, tyA, at0, at1, at2, at3, ixL0, ixL1, ixL2, set0, set1, set2, updA_same, updA_twice, List.append_nil, List.cons_append, List.nil_append, id_eq, f1]
      refine ⟨.inl (by omega), .inl (by omega), by decide, ?_⟩
      generalize hy : (x * x + 69621 * x + (n + 1)) % 2147483587 = y
      have b4 : 0 ≤ y := by rw [← hy]; exact Int.emod_nonneg _ (by decide)
      have b5 : y < 2147483587 := by rw [← hy]; exact Int.emod_lt_of_pos _ (by decide)
      refine seq_n ?_
      simp only [aNext, aAsg, aName, aVar, slot, put, aC, aOp, aUn, aTest, aChain, aAnd, aOr, aNot, aAndV, aOrV, aNotV, aIf, aNil, aCons, aTup, aLst, aCB, aBM, aSl, aPart, aNoPart, aDrop, aRet, aIfS, aPar, aAug, aSub, aUnp, aGNil, aGCons, aCall, aYes, aNilEq, aJoin, wRange1, wAny, wEnum, wEnumD, wKeys, wVals, wItems, lkAt, aLc, aDc, aDc2, aDNew, aRev, aSetd, aGet1, aGet2, isD, dAt,  wipeA, List.set_cons_zero, List.set_cons_succ, asStrs_map, bSub, bAdd, bIAdd, bNeg, bIx, bSl, bInt, bSet, bPop, bInsert, bAppend, bExtend, bML, bEqB, bIsB, bInB, one, bLen, bList, bTuple, bSum, bToInt, bIsi, bRepr, tyA, at0, at1, at2, at3, ixL0, ixL1, ixL2, set0, set1, set2, updA_same, updA_twice, List.append_nil, List.cons_append, List.nil_append, id_eq, f1]
      refine .keep ?_
      simp only [aNext, aAsg, aName, aVar, slot, put, aC, aOp, aUn, aTest, aChain, aAnd, aOr, aNot, aAndV, aOrV, aNotV, aIf, aNil, aCons, aTup, aLst, aCB, aBM, aSl, aPart, aNoPart, aDrop, aRet, aIfS, aPar, aAug, aSub, aUnp, aGNil, aGCons, aCall, aYes, aNilEq, aJoin, wRange1, wAny, wEnum, wEnumD, wKeys, wVals, wItems, lkAt, aLc, aDc, aDc2, aDNew, aRev, aSetd, aGet1, aGet2, isD, dAt,  wipeA, List.set_cons_zero, List.set_cons_succ, asStrs_map, bSub, bAdd, bIAdd, bNeg, bIx, bSl, bInt, bSet, bPop, bInsert, bAppend, bExtend, bML, bEqB, bIsB, bInB, one, bLen, bList, bTuple, bSum, bToInt, bIsi, bRepr, tyA, at0, at1, at2, at3, ixL0, ixL1, ixL2, set0, set1, set2, updA_same, updA_twice, List.append_nil, List.cons_append, List.nil_append, id_eq, f1]
      refine ⟨.inl (by omega), by decide, ⟨by decide, by decide⟩, h0, ?_⟩
      refine ⟨m, fun H z => deck_back z own hd (fun b o n1 n2 e => ?_) (z := y) (n := n + 1) (ns := ns') ?_ ?_ f3 b4 (by omega) (by omega), k _ (Int.emod_nonneg _ (by omega)) (Int.emod_lt_of_pos _ h0)⟩
      · rw [updA_ne n1]; exact f4 b o n1 n2 e
      · exact updA_same
      · rw [updA_ne ne']; exact f2
    · intro n2 hn2
      simp only [aNext, aAsg, aName, aVar, slot, put, aC, aOp, aUn, aTest, aChain, aAnd, aOr, aNot, aAndV, aOrV, aNotV, aIf, aNil, aCons, aTup, aLst, aCB, aBM, aSl, aPart, aNoPart, aDrop, aRet, aIfS, aPar, aAug, aSub, aUnp, aGNil, aGCons, aCall, aYes, aNilEq, aJoin, wRange1, wAny, wEnum, wEnumD, wKeys, wVals, wItems, lkAt, aLc, aDc, aDc2, aDNew, aRev, aSetd, aGet1, aGet2, isD, dAt,  wipeA, List.set_cons_zero, List.set_cons_succ, asStrs_map, bSub, bAdd, bIAdd, bNeg, bIx, bSl, bInt, bSet, bPop, bInsert, bAppend, bExtend, bML, bEqB, bIsB, bInB, one, bLen, bList, bTuple, bSum, bToInt, bIsi, bRepr, tyA, at0, at1, at2, at3, ixL0, ixL1, ixL2, set0, set1, set2, updA_same, updA_twice, List.append_nil, List.cons_append, List.nil_append, id_eq, updA_ne ne', e2]
      cases ns with
      | nil =>
        refine hn2 _ _ (.keep ⟨[], z, rfl, updA_same, ?_, by decide, fun b o n1 n2 e => ?_⟩)
        · rw [updA_ne ne']; exact e2
        · rw [updA_ne n1]; exact e3 b o n1 n2 e
      | cons x ns =>
        simp only [List.map_cons, List.isEmpty_cons, Bool.not_false, if_true]
        refine seq_i ?_
        simp only [aNext, aAsg, aName, aVar, slot, put, aC, aOp, aUn, aTest, aChain, aAnd, aOr, aNot, aAndV, aOrV, aNotV, aIf, aNil, aCons, aTup, aLst, aCB, aBM, aSl, aPart, aNoPart, aDrop, aRet, aIfS, aPar, aAug, aSub, aUnp, aGNil, aGCons, aCall, aYes, aNilEq, aJoin, wRange1, wAny, wEnum, wEnumD, wKeys, wVals, wItems, lkAt, aLc, aDc, aDc2, aDNew, aRev, aSetd, aGet1, aGet2, isD, dAt,  wipeA, List.set_cons_zero, List.set_cons_succ, asStrs_map, bSub, bAdd, bIAdd, bNeg, bIx, bSl, bInt, bSet, bPop, bInsert, bAppend, bExtend, bML, bEqB, bIsB, bInB, one, bLen, bList, bTuple, bSum, bToInt, bIsi, bRepr, tyA, at0, at1, at2, at3, ixL0, ixL1, ixL2, set0, set1, set2, updA_same, updA_twice, List.append_nil, List.cons_append, List.nil_append, id_eq, updA_ne ne', e2, List.map_cons, List.getElem?_cons_zero, List.eraseIdx_cons_zero]
        refine ⟨⟨_, _, rfl, by rw [updA_ne ne', e2]⟩, by decide, by decide, .keep ?_⟩
        have f1 : updA (updA m1 d (.lst [.ref c, .int z, .int (n + 1)])) c (.lst (ns.map AV.int)) d = some (.lst [.ref c, .int z, .int (n + 1)]) := by rw [updA_ne ne, updA_same]
        have f2 : updA (updA m1 d (.lst [.ref c, .int z, .int (n + 1)])) c (.lst (ns.map AV.int)) c = some (.lst (ns.map AV.int)) := updA_same
        have f4 : ∀ b o, b ≠ d → b ≠ c → m b = some o → updA (updA m1 d (.lst [.ref c, .int z, .int (n + 1)])) c (.lst (ns.map AV.int)) b = some o := fun b o n1 n2 e => by rw [updA_ne n2, updA_ne n1]; exact e3 b o n1 n2 e
        revert f1 f2 f4
        generalize updA (updA m1 d (.lst [.ref c, .int z, .int (n + 1)])) c (.lst (ns.map AV.int)) = m3
        intro f1 f2 f4
        have hl : ns.length ≤ 62 := by simpa using l1
        refine seq_i ?_
        simp only [aNext, aAsg, aName, aVar, slot, put, aC, aOp, aUn, aTest, aChain, aAnd, aOr, aNot, aAndV, aOrV, aNotV, aIf, aNil, aCons, aTup, aLst, aCB, aBM, aSl, aPart, aNoPart, aDrop, aRet, aIfS, aPar, aAug, aSub, aUnp, aGNil, aGCons, aCall, aYes, aNilEq, aJoin, wRange1, wAny, wEnum, wEnumD, wKeys, wVals, wItems, lkAt, aLc, aDc, aDc2, aDNew, aRev, aSetd, aGet1, aGet2, isD, dAt,  wipeA, List.set_cons_zero, List.set_cons_succ, asStrs_map, bSub, bAdd, bIAdd, bNeg, bIx, bSl, bInt, bSet, bPop, bInsert, bAppend, bExtend, bML, bEqB, bIsB, bInB, one, bLen, bList, bTuple, bSum, bToInt, bIsi, bRepr, tyA, at0, at1, at2, at3, ixL0, ixL1, ixL2, set0, set1, set2, updA_same, updA_twice, List.append_nil, List.cons_append, List.nil_append, id_eq]
        refine ⟨⟨by decide, by decide, by decide⟩, trivial, ?_⟩
        by_cases hx : (10 : Int) ^ (18 : Int).toNat ≤ x
        · rw [if_pos (by simpa using hx)]
          refine seq_i ?_
          simp only [aNext, aAsg, aName, aVar, slot, put, aC, aOp, aUn, aTest, aChain, aAnd, aOr, aNot, aAndV, aOrV, aNotV, aIf, aNil, aCons, aTup, aLst, aCB, aBM, aSl, aPart, aNoPart, aDrop, aRet, aIfS, aPar, aAug, aSub, aUnp, aGNil, aGCons, aCall, aYes, aNilEq, aJoin, wRange1, wAny, wEnum, wEnumD, wKeys, wVals, wItems, lkAt, aLc, aDc, aDc2, aDNew, aRev, aSetd, aGet1, aGet2, isD, dAt,  wipeA, List.set_cons_zero, List.set_cons_succ, asStrs_map, bSub, bAdd, bIAdd, bNeg, bIx, bSl, bInt, bSet, bPop, bInsert, bAppend, bExtend, bML, bEqB, bIsB, bInB, one, bLen, bList, bTuple, bSum, bToInt, bIsi, bRepr, tyA, at0, at1, at2, at3, ixL0, ixL1, ixL2, set0, set1, set2, updA_same, updA_twice, List.append_nil, List.cons_append, List.nil_append, id_eq, f2, Int.toNat_zero, List.take_zero, List.drop_zero, List.length_map]
          refine ⟨⟨_, _, rfl, f2⟩, ⟨h0, h1⟩, by unfold sizeLine; omega, by decide, by decide, .keep ⟨h0, ⟨m, fun H z => deck_back z own hd (fun b o n1 n2 e => ?_) (z := _) (n := n + 1) (ns := x / M :: ns) ?_ ?_ ?_ l2 l3 (by omega), k _ (Int.emod_nonneg _ (by omega)) (Int.emod_lt_of_pos _ h0)⟩⟩⟩
          · rw [updA_ne n2]; exact f4 b o n1 n2 e
          · rw [updA_ne ne]; exact f1
          · exact updA_same
          · simp only [List.length_cons]; omega
        · rw [if_neg (by simpa using hx)]
          refine .keep ?_
          simp only [aNext, aAsg, aName, aVar, slot, put, aC, aOp, aUn, aTest, aChain, aAnd, aOr, aNot, aAndV, aOrV, aNotV, aIf, aNil, aCons, aTup, aLst, aCB, aBM, aSl, aPart, aNoPart, aDrop, aRet, aIfS, aPar, aAug, aSub, aUnp, aGNil, aGCons, aCall, aYes, aNilEq, aJoin, wRange1, wAny, wEnum, wEnumD, wKeys, wVals, wItems, lkAt, aLc, aDc, aDc2, aDNew, aRev, aSetd, aGet1, aGet2, isD, dAt,  wipeA, List.set_cons_zero, List.set_cons_succ, asStrs_map, bSub, bAdd, bIAdd, bNeg, bIx, bSl, bInt, bSet, bPop, bInsert, bAppend, bExtend, bML, bEqB, bIsB, bInB, one, bLen, bList, bTuple, bSum, bToInt, bIsi, bRepr, tyA, at0, at1, at2, at3, ixL0, ixL1, ixL2, set0, set1, set2, updA_same, updA_twice, List.append_nil, List.cons_append, List.nil_append, id_eq, f1]
          exact hn2 _ _ (.keep ⟨ns, x + z, rfl, f1, f2, by omega, f4⟩)
  · exact h.elim
end K03

namespace K03
open PySem PySem.Spec PyProof.Rows L2 Ab
variable {K : PySem.W.Frag}
def spDeck : ASp := fun xs m q => match xs with
  | [.scr _] => Own m ∧ ∀ d c, m d = none → m c = none → d ≠ c → q (.ref d) (updA (updA m c (.hid d)) d (.deck c))
  | _ => False
theorem r__law_deck : Reads K n__law_deck (t__law_deck K) spDeck := by
  intro H xs m q h g
  unfold spDeck at h
  split at h
  · rename_i ns
    obtain ⟨w, k⟩ := h
    refine ⟨_, g, ?_⟩
    rw [show startA n__law_deck [.scr ns] = [some (.scr ns), none] from rfl]
    unfold t__law_deck
    refine seq_i ?_
    simp only [aNext, aAsg, aName, aVar, slot, put, aC, aOp, aUn, aTest, aChain, aAnd, aOr, aNot, aAndV, aOrV, aNotV, aIf, aNil, aCons, aTup, aLst, aCB, aBM, aSl, aPart, aNoPart, aDrop, aRet, aIfS, aPar, aAug, aSub, aUnp, aGNil, aGCons, aCall, aYes, aNilEq, aJoin, wRange1, wAny, wEnum, wEnumD, wKeys, wVals, wItems, lkAt, aLc, aDc, aDc2, aDNew, aRev, aSetd, aGet1, aGet2, isD, dAt,  wipeA, List.set_cons_zero, List.set_cons_succ, asStrs_map, bSub, bAdd, bIAdd, bNeg, bIx, bSl, bInt, bSet, bPop, bInsert, bAppend, bExtend, bML, bEqB, bIsB, bInB, one, bLen, bList, bTuple, bSum, bToInt, bIsi, bRepr, tyA, at0, at1, at2, at3, ixL0, ixL1, ixL2, set0, set1, set2, updA_same, updA_twice, List.append_nil, List.cons_append, List.nil_append, id_eq, cutA_G, cutG_to (show (0 : Int) ≤ 63 by decide), map_take]
    intro p hp c hc
    refine .keep ?_
    simp only [aNext, aAsg, aName, aVar, slot, put, aC, aOp, aUn, aTest, aChain, aAnd, aOr, aNot, aAndV, aOrV, aNotV, aIf, aNil, aCons, aTup, aLst, aCB, aBM, aSl, aPart, aNoPart, aDrop, aRet, aIfS, aPar, aAug, aSub, aUnp, aGNil, aGCons, aCall, aYes, aNilEq, aJoin, wRange1, wAny, wEnum, wEnumD, wKeys, wVals, wItems, lkAt, aLc, aDc, aDc2, aDNew, aRev, aSetd, aGet1, aGet2, isD, dAt,  wipeA, List.set_cons_zero, List.set_cons_succ, asStrs_map, bSub, bAdd, bIAdd, bNeg, bIx, bSl, bInt, bSet, bPop, bInsert, bAppend, bExtend, bML, bEqB, bIsB, bInB, one, bLen, bList, bTuple, bSum, bToInt, bIsi, bRepr, tyA, at0, at1, at2, at3, ixL0, ixL1, ixL2, set0, set1, set2, updA_same, updA_twice, List.append_nil, List.cons_append, List.nil_append, id_eq, asInts_map]
    have hp2 : m c = none := (Sub.refl.alloc hp (o := .lst (ns.take (Int.toNat 63) |>.map .int))).none hc
    refine ⟨by decide, sz (by simp), fun d hd => ?_⟩
    have ne : d ≠ c := fun e => by rw [e, updA_same] at hd; cases hd
    have np : c ≠ p := fun e => by rw [e, updA_same] at hc; cases hc
    have nd : d ≠ p := fun e => by rw [updA_ne ne, e, updA_same] at hd; cases hd
    have hd2 : m d = none := by rwa [updA_ne ne, updA_ne nd] at hd
    refine ⟨_, fun H z => deck_new z w ?_ hd2 hp2 ne (ns := ns.take 63) (z := _) (n := 0) updA_same ?_ ?_ ?_ ?_ (by decide), k d c hd2 hp2 ne⟩
    · exact ((Sub.refl.new hp).new hp2).new hd2
    · rw [updA_ne (Ne.symm ne), updA_same]; rfl
    · rw [List.length_take]; omega
    · have := Int.emod_nonneg (ns.take (Int.toNat 63)).sum (b := 2147483579) (by decide)
      omega
    · have := Int.emod_lt_of_pos (ns.take (Int.toNat 63)).sum (b := 2147483579) (by decide)
      omega
  · exact h.elim
def spNames : ASp := fun xs m q => match xs with
  | [.ref d, .int n] => Own m ∧ (∃ c, m d = some (.deck c)) ∧ 0 ≤ n ∧ n ≤ 8 ∧ ∀ ws : List Str, (ws.length : Int) = n → (∀ w ∈ ws, Word w) → ∀ p, m p = none → q (.ref p) (updA m p (.lst (ws.map .str)))
  | _ => False
theorem r__law_names : Reads K n__law_names (t__law_names K spDraw) spNames := by
  intro H xs m q h g
  unfold spNames at h
  split at h
  · rename_i d n
    obtain ⟨w, ⟨c, hd⟩, h0, h8, k⟩ := h
    refine ⟨_, g, ?_⟩
    rw [show startA n__law_names [.ref d, .int n] = [some (.ref d), some (.int n), none, none, none, none, none, none, none, none] from rfl]
    unfold t__law_names
    refine seq_i ?_
    simp only [aNext, aAsg, aName, aVar, slot, put, aC, aOp, aUn, aTest, aChain, aAnd, aOr, aNot, aAndV, aOrV, aNotV, aIf, aNil, aCons, aTup, aLst, aCB, aBM, aSl, aPart, aNoPart, aDrop, aRet, aIfS, aPar, aAug, aSub, aUnp, aGNil, aGCons, aCall, aYes, aNilEq, aJoin, wRange1, wAny, wEnum, wEnumD, wKeys, wVals, wItems, lkAt, aLc, aDc, aDc2, aDNew, aRev, aSetd, aGet1, aGet2, isD, dAt,  wipeA, List.set_cons_zero, List.set_cons_succ, asStrs_map, bSub, bAdd, bIAdd, bNeg, bIx, bSl, bInt, bSet, bPop, bInsert, bAppend, bExtend, bML, bEqB, bIsB, bInB, one, bLen, bList, bTuple, bSum, bToInt, bIsi, bRepr, tyA, at0, at1, at2, at3, ixL0, ixL1, ixL2, set0, set1, set2, updA_same, updA_twice, List.append_nil, List.cons_append, List.nil_append, id_eq]
    refine seq_n ?_
    simp only [aNext, aAsg, aName, aVar, slot, put, aC, aOp, aUn, aTest, aChain, aAnd, aOr, aNot, aAndV, aOrV, aNotV, aIf, aNil, aCons, aTup, aLst, aCB, aBM, aSl, aPart, aNoPart, aDrop, aRet, aIfS, aPar, aAug, aSub, aUnp, aGNil, aGCons, aCall, aYes, aNilEq, aJoin, wRange1, wAny, wEnum, wEnumD, wKeys, wVals, wItems, lkAt, aLc, aDc, aDc2, aDNew, aRev, aSetd, aGet1, aGet2, isD, dAt,  wipeA, List.set_cons_zero, List.set_cons_succ, asStrs_map, bSub, bAdd, bIAdd, bNeg, bIx, bSl, bInt, bSet, bPop, bInsert, bAppend, bExtend, bML, bEqB, bIsB, bInB, one, bLen, bList, bTuple, bSum, bToInt, bIsi, bRepr, tyA, at0, at1, at2, at3, ixL0, ixL1, ixL2, set0, set1, set2, updA_same, updA_twice, List.append_nil, List.cons_append, List.nil_append, id_eq]
    refine ⟨by decide, fun p hp => ?_⟩
    have hd1 := updA_keep (o := .lst [.str "same", .str "both", .str "call", .str "either", .str "fresh", .str "unlike", .str "number", .str "word", .str "absent", .str "x", .str "put", .str "go"]) hp hd
    refine seq_n ?_
    simp only [aNext, aAsg, aName, aVar, slot, put, aC, aOp, aUn, aTest, aChain, aAnd, aOr, aNot, aAndV, aOrV, aNotV, aIf, aNil, aCons, aTup, aLst, aCB, aBM, aSl, aPart, aNoPart, aDrop, aRet, aIfS, aPar, aAug, aSub, aUnp, aGNil, aGCons, aCall, aYes, aNilEq, aJoin, wRange1, wAny, wEnum, wEnumD, wKeys, wVals, wItems, lkAt, aLc, aDc, aDc2, aDNew, aRev, aSetd, aGet1, aGet2, isD, dAt,  wipeA, List.set_cons_zero, List.set_cons_succ, asStrs_map, bSub, bAdd, bIAdd, bNeg, bIx, bSl, bInt, bSet, bPop, bInsert, bAppend, bExtend, bML, bEqB, bIsB, bInB, one, bLen, bList, bTuple, bSum, bToInt, bIsi, bRepr, tyA, at0, at1, at2, at3, ixL0, ixL1, ixL2, set0, set1, set2, updA_same, updA_twice, List.append_nil, List.cons_append, List.nil_append, id_eq, spDraw]
    refine ⟨⟨c, hd1⟩, by decide, by decide, fun mode a0 a1 => ?_⟩
    refine seq_n ?_
    simp only [aNext, aAsg, aName, aVar, slot, put, aC, aOp, aUn, aTest, aChain, aAnd, aOr, aNot, aAndV, aOrV, aNotV, aIf, aNil, aCons, aTup, aLst, aCB, aBM, aSl, aPart, aNoPart, aDrop, aRet, aIfS, aPar, aAug, aSub, aUnp, aGNil, aGCons, aCall, aYes, aNilEq, aJoin, wRange1, wAny, wEnum, wEnumD, wKeys, wVals, wItems, lkAt, aLc, aDc, aDc2, aDNew, aRev, aSetd, aGet1, aGet2, isD, dAt,  wipeA, List.set_cons_zero, List.set_cons_succ, asStrs_map, bSub, bAdd, bIAdd, bNeg, bIx, bSl, bInt, bSet, bPop, bInsert, bAppend, bExtend, bML, bEqB, bIsB, bInB, one, bLen, bList, bTuple, bSum, bToInt, bIsi, bRepr, tyA, at0, at1, at2, at3, ixL0, ixL1, ixL2, set0, set1, set2, updA_same, updA_twice, List.append_nil, List.cons_append, List.nil_append, id_eq, spDraw]
    refine ⟨⟨c, hd1⟩, by decide, by decide, fun turn b0 b1 => ?_⟩
    refine seq_n ?_
    simp only [aNext, aAsg, aName, aVar, slot, put, aC, aOp, aUn, aTest, aChain, aAnd, aOr, aNot, aAndV, aOrV, aNotV, aIf, aNil, aCons, aTup, aLst, aCB, aBM, aSl, aPart, aNoPart, aDrop, aRet, aIfS, aPar, aAug, aSub, aUnp, aGNil, aGCons, aCall, aYes, aNilEq, aJoin, wRange1, wAny, wEnum, wEnumD, wKeys, wVals, wItems, lkAt, aLc, aDc, aDc2, aDNew, aRev, aSetd, aGet1, aGet2, isD, dAt,  wipeA, List.set_cons_zero, List.set_cons_succ, asStrs_map, bSub, bAdd, bIAdd, bNeg, bIx, bSl, bInt, bSet, bPop, bInsert, bAppend, bExtend, bML, bEqB, bIsB, bInB, one, bLen, bList, bTuple, bSum, bToInt, bIsi, bRepr, tyA, at0, at1, at2, at3, ixL0, ixL1, ixL2, set0, set1, set2, updA_same, updA_twice, List.append_nil, List.cons_append, List.nil_append, id_eq, spDraw]
    generalize hm2 : updA m p _ = m2 at hd1 ⊢
    refine ⟨by decide, by decide, fun D hD => ?_⟩
    refine lc_map0 (fun i : Nat => AV.str ⟨#[i]⟩) (fun i => 97 ≤ i ∧ i ≤ 122) (fun _ => trivial) _ (fun x hx acc k2 hk => ?_) (by rw [upto_len]; decide) (fun cs hl hcs => ?_)
    · simp only [aNext, aAsg, aName, aVar, slot, put, aC, aOp, aUn, aTest, aChain, aAnd, aOr, aNot, aAndV, aOrV, aNotV, aIf, aNil, aCons, aTup, aLst, aCB, aBM, aSl, aPart, aNoPart, aDrop, aRet, aIfS, aPar, aAug, aSub, aUnp, aGNil, aGCons, aCall, aYes, aNilEq, aJoin, wRange1, wAny, wEnum, wEnumD, wKeys, wVals, wItems, lkAt, aLc, aDc, aDc2, aDNew, aRev, aSetd, aGet1, aGet2, isD, dAt,  wipeA, List.set_cons_zero, List.set_cons_succ, asStrs_map, bSub, bAdd, bIAdd, bNeg, bIx, bSl, bInt, bSet, bPop, bInsert, bAppend, bExtend, bML, bEqB, bIsB, bInB, one, bLen, bList, bTuple, bSum, bToInt, bIsi, bRepr, tyA, at0, at1, at2, at3, ixL0, ixL1, ixL2, set0, set1, set2, updA_same, updA_twice, List.append_nil, List.cons_append, List.nil_append, id_eq, spDraw]
      refine ⟨⟨c, updA_keep hD hd1⟩, by decide, by decide, fun i i0 i1 => ?_⟩
      obtain ⟨x, e, hx⟩ := at_lt (xs := (Str.ofString "abcdefghijklmnopqrstuvwxyz").cps.toList) i0 i1
      simp only [e]
      refine ⟨by decide, .keep (hk x ?_)⟩
      exact letters_ok x hx
    have hD1 := updA_keep (o := .lst (cs.map fun i => AV.str ⟨#[i]⟩)) hD hd1
    simp only [aNext, aAsg, aName, aVar, slot, put, aC, aOp, aUn, aTest, aChain, aAnd, aOr, aNot, aAndV, aOrV, aNotV, aIf, aNil, aCons, aTup, aLst, aCB, aBM, aSl, aPart, aNoPart, aDrop, aRet, aIfS, aPar, aAug, aSub, aUnp, aGNil, aGCons, aCall, aYes, aNilEq, aJoin, wRange1, wAny, wEnum, wEnumD, wKeys, wVals, wItems, lkAt, aLc, aDc, aDc2, aDNew, aRev, aSetd, aGet1, aGet2, isD, dAt,  wipeA, List.set_cons_zero, List.set_cons_succ, asStrs_map, bSub, bAdd, bIAdd, bNeg, bIx, bSl, bInt, bSet, bPop, bInsert, bAppend, bExtend, bML, bEqB, bIsB, bInB, one, bLen, bList, bTuple, bSum, bToInt, bIsi, bRepr, tyA, at0, at1, at2, at3, ixL0, ixL1, ixL2, set0, set1, set2, updA_same, updA_twice, List.append_nil, List.cons_append, List.nil_append, id_eq, map_strs cs, join_chars]
    have hl : cs.length = 8 := hl.trans (upto_len _)
    refine ⟨?_, ?_⟩
    · rw [List.map_map, List.length_map, hl]
      have e : (cs.map ((fun x => Str.length x) ∘ fun i => (⟨#[i]⟩ : Str))) = cs.map fun _ => 1 := rfl
      rw [e, sum_ones, hl]
      decide
    have own2 : Own m2 := hm2 ▸ w.free hp (fun c e => by cases e)
    have hp2 : m2 p = some (.lst (kinds.map AV.str)) := by rw [← hm2]; exact updA_same
    have sub2 : Sub m m2 := hm2 ▸ Sub.refl.new hp
    refine Fg.drop1 own2 hD ?_
    refine seq_i ?_
    simp only [aNext, aAsg, aName, aVar, slot, put, aC, aOp, aUn, aTest, aChain, aAnd, aOr, aNot, aAndV, aOrV, aNotV, aIf, aNil, aCons, aTup, aLst, aCB, aBM, aSl, aPart, aNoPart, aDrop, aRet, aIfS, aPar, aAug, aSub, aUnp, aGNil, aGCons, aCall, aYes, aNilEq, aJoin, wRange1, wAny, wEnum, wEnumD, wKeys, wVals, wItems, lkAt, aLc, aDc, aDc2, aDNew, aRev, aSetd, aGet1, aGet2, isD, dAt,  wipeA, List.set_cons_zero, List.set_cons_succ, asStrs_map, bSub, bAdd, bIAdd, bNeg, bIx, bSl, bInt, bSet, bPop, bInsert, bAppend, bExtend, bML, bEqB, bIsB, bInB, one, bLen, bList, bTuple, bSum, bToInt, bIsi, bRepr, tyA, at0, at1, at2, at3, ixL0, ixL1, ixL2, set0, set1, set2, updA_same, updA_twice, List.append_nil, List.cons_append, List.nil_append, id_eq, spDraw]
    refine ⟨⟨c, hd1⟩, by decide, by decide, fun size s0 s1 => ?_⟩
    refine seq_n ?_
    simp only [aNext, aAsg, aName, aVar, slot, put, aC, aOp, aUn, aTest, aChain, aAnd, aOr, aNot, aAndV, aOrV, aNotV, aIf, aNil, aCons, aTup, aLst, aCB, aBM, aSl, aPart, aNoPart, aDrop, aRet, aIfS, aPar, aAug, aSub, aUnp, aGNil, aGCons, aCall, aYes, aNilEq, aJoin, wRange1, wAny, wEnum, wEnumD, wKeys, wVals, wItems, lkAt, aLc, aDc, aDc2, aDNew, aRev, aSetd, aGet1, aGet2, isD, dAt,  wipeA, List.set_cons_zero, List.set_cons_succ, asStrs_map, bSub, bAdd, bIAdd, bNeg, bIx, bSl, bInt, bSet, bPop, bInsert, bAppend, bExtend, bML, bEqB, bIsB, bInB, one, bLen, bList, bTuple, bSum, bToInt, bIsi, bRepr, tyA, at0, at1, at2, at3, ixL0, ixL1, ixL2, set0, set1, set2, updA_same, updA_twice, List.append_nil, List.cons_append, List.nil_append, id_eq, spDraw]
    refine ⟨⟨c, hd1⟩, by omega, by omega, fun at_ u0 u1 => ?_⟩
    refine seq_n ?_
    simp only [aNext, aAsg, aName, aVar, slot, put, aC, aOp, aUn, aTest, aChain, aAnd, aOr, aNot, aAndV, aOrV, aNotV, aIf, aNil, aCons, aTup, aLst, aCB, aBM, aSl, aPart, aNoPart, aDrop, aRet, aIfS, aPar, aAug, aSub, aUnp, aGNil, aGCons, aCall, aYes, aNilEq, aJoin, wRange1, wAny, wEnum, wEnumD, wKeys, wVals, wItems, lkAt, aLc, aDc, aDc2, aDNew, aRev, aSetd, aGet1, aGet2, isD, dAt,  wipeA, List.set_cons_zero, List.set_cons_succ, asStrs_map, bSub, bAdd, bIAdd, bNeg, bIx, bSl, bInt, bSet, bPop, bInsert, bAppend, bExtend, bML, bEqB, bIsB, bInB, one, bLen, bList, bTuple, bSum, bToInt, bIsi, bRepr, tyA, at0, at1, at2, at3, ixL0, ixL1, ixL2, set0, set1, set2, updA_same, updA_twice, List.append_nil, List.cons_append, List.nil_append, id_eq]
    have endOk : ∀ (D : Addr), m2 D = none → ∀ bs : List Str, bs.length = (upto n.toNat).length → (∀ w ∈ bs, Word w) → Fin K q (.ref D) (updA m2 D (.lst (bs.map .str))) := by
      intro D hD bs h1 h2
      have hDm := sub2.none hD
      refine Fin.list w (sub2.new hDm) hDm updA_same (k bs ?_ h2 D hDm)
      rw [h1, upto_len]
      omega
    by_cases hm : mode = 0
    · rw [if_pos (by simpa using hm)]
      refine ⟨by omega, by omega, fun D hD => ?_⟩
      refine lc_map0 AV.str Word (fun _ => trivial) _ (fun x hx acc k2 hk => ?_) (by rw [upto_len]; unfold sizeLine; omega) (endOk D hD)
      obtain ⟨i, rfl, i1⟩ := upto_mem hx
      simp only [aNext, aAsg, aName, aVar, slot, put, aC, aOp, aUn, aTest, aChain, aAnd, aOr, aNot, aAndV, aOrV, aNotV, aIf, aNil, aCons, aTup, aLst, aCB, aBM, aSl, aPart, aNoPart, aDrop, aRet, aIfS, aPar, aAug, aSub, aUnp, aGNil, aGCons, aCall, aYes, aNilEq, aJoin, wRange1, wAny, wEnum, wEnumD, wKeys, wVals, wItems, lkAt, aLc, aDc, aDc2, aDNew, aRev, aSetd, aGet1, aGet2, isD, dAt,  wipeA, List.set_cons_zero, List.set_cons_succ, asStrs_map, bSub, bAdd, bIAdd, bNeg, bIx, bSl, bInt, bSet, bPop, bInsert, bAppend, bExtend, bML, bEqB, bIsB, bInB, one, bLen, bList, bTuple, bSum, bToInt, bIsi, bRepr, tyA, at0, at1, at2, at3, ixL0, ixL1, ixL2, set0, set1, set2, updA_same, updA_twice, List.append_nil, List.cons_append, List.nil_append, id_eq, updA_keep hD hp2]
      have j0 := Int.emod_nonneg (turn + 5 * (i : Int)) (b := 12) (by decide)
      have j1 := Int.emod_lt_of_pos (turn + 5 * (i : Int)) (b := 12) (by decide)
      obtain ⟨x, e, hx⟩ := at_lt (xs := kinds.map AV.str) (i := (turn + 5 * (i : Int)) % 12) j0 j1
      simp only [e]
      obtain ⟨w, hw, rfl⟩ := List.mem_map.mp hx
      exact ⟨.inl (by decide), by decide, .keep (hk w (kinds_ok w hw))⟩
    · rw [if_neg (by simpa using hm)]
      refine .keep ?_
      refine seq_i ?_
      simp only [aNext, aAsg, aName, aVar, slot, put, aC, aOp, aUn, aTest, aChain, aAnd, aOr, aNot, aAndV, aOrV, aNotV, aIf, aNil, aCons, aTup, aLst, aCB, aBM, aSl, aPart, aNoPart, aDrop, aRet, aIfS, aPar, aAug, aSub, aUnp, aGNil, aGCons, aCall, aYes, aNilEq, aJoin, wRange1, wAny, wEnum, wEnumD, wKeys, wVals, wItems, lkAt, aLc, aDc, aDc2, aDNew, aRev, aSetd, aGet1, aGet2, isD, dAt,  wipeA, List.set_cons_zero, List.set_cons_succ, asStrs_map, bSub, bAdd, bIAdd, bNeg, bIx, bSl, bInt, bSet, bPop, bInsert, bAppend, bExtend, bML, bEqB, bIsB, bInB, one, bLen, bList, bTuple, bSum, bToInt, bIsi, bRepr, tyA, at0, at1, at2, at3, ixL0, ixL1, ixL2, set0, set1, set2, updA_same, updA_twice, List.append_nil, List.cons_append, List.nil_append, id_eq]
      have hcl : (⟨cs.toArray⟩ : Str).length = 8 := by rw [str_len]; exact hl
      by_cases h1 : mode = 1
      · rw [if_pos (by simpa using h1)]
        refine ⟨trivial, ?_⟩
        rw [if_pos (by simp; omega)]
        refine ⟨by omega, by omega, fun D hD => ?_⟩
        refine lc_map0 AV.str Word (fun _ => trivial) _ (fun x hx acc k2 hk => ?_) (by rw [upto_len]; unfold sizeLine; omega) (endOk D hD)
        obtain ⟨i, rfl, i1⟩ := upto_mem hx
        simp only [aNext, aAsg, aName, aVar, slot, put, aC, aOp, aUn, aTest, aChain, aAnd, aOr, aNot, aAndV, aOrV, aNotV, aIf, aNil, aCons, aTup, aLst, aCB, aBM, aSl, aPart, aNoPart, aDrop, aRet, aIfS, aPar, aAug, aSub, aUnp, aGNil, aGCons, aCall, aYes, aNilEq, aJoin, wRange1, wAny, wEnum, wEnumD, wKeys, wVals, wItems, lkAt, aLc, aDc, aDc2, aDNew, aRev, aSetd, aGet1, aGet2, isD, dAt,  wipeA, List.set_cons_zero, List.set_cons_succ, asStrs_map, bSub, bAdd, bIAdd, bNeg, bIx, bSl, bInt, bSet, bPop, bInsert, bAppend, bExtend, bML, bEqB, bIsB, bInB, one, bLen, bList, bTuple, bSum, bToInt, bIsi, bRepr, tyA, at0, at1, at2, at3, ixL0, ixL1, ixL2, set0, set1, set2, updA_same, updA_twice, List.append_nil, List.cons_append, List.nil_append, id_eq]
        refine ⟨by rw [hcl]; decide, .keep (hk _ ⟨?_, ?_, fun x hx => ?_⟩)⟩
        · rw [str_len, cutS_G, cutG_to (by omega), List.length_take, ← str_len, hcl]; omega
        · rw [str_len, cutS_G, cutG_to (by omega), List.length_take, ← str_len, hcl]; omega
        · rw [cutS_G] at hx
          exact hcs x (cutG_mem hx)
      · rw [if_neg (by simpa using h1), if_neg (by decide)]
        refine .keep ?_
        simp only [aNext, aAsg, aName, aVar, slot, put, aC, aOp, aUn, aTest, aChain, aAnd, aOr, aNot, aAndV, aOrV, aNotV, aIf, aNil, aCons, aTup, aLst, aCB, aBM, aSl, aPart, aNoPart, aDrop, aRet, aIfS, aPar, aAug, aSub, aUnp, aGNil, aGCons, aCall, aYes, aNilEq, aJoin, wRange1, wAny, wEnum, wEnumD, wKeys, wVals, wItems, lkAt, aLc, aDc, aDc2, aDNew, aRev, aSetd, aGet1, aGet2, isD, dAt,  wipeA, List.set_cons_zero, List.set_cons_succ, asStrs_map, bSub, bAdd, bIAdd, bNeg, bIx, bSl, bInt, bSet, bPop, bInsert, bAppend, bExtend, bML, bEqB, bIsB, bInB, one, bLen, bList, bTuple, bSum, bToInt, bIsi, bRepr, tyA, at0, at1, at2, at3, ixL0, ixL1, ixL2, set0, set1, set2, updA_same, updA_twice, List.append_nil, List.cons_append, List.nil_append, id_eq]
        refine ⟨by omega, by omega, fun D hD => ?_⟩
        refine lc_map0 AV.str Word (fun _ => trivial) _ (fun x hx acc k2 hk => ?_) (by rw [upto_len]; unfold sizeLine; omega) (endOk D hD)
        obtain ⟨i, rfl, i1⟩ := upto_mem hx
        have j0 := Int.emod_nonneg (turn + 7 * (i : Int)) (b := 26) (by decide)
        have j1 := Int.emod_lt_of_pos (turn + 7 * (i : Int)) (b := 26) (by decide)
        obtain ⟨x, e, hx⟩ := at_lt (xs := (Str.ofString "abcdefghijklmnopqrstuvwxyz").cps.toList) (i := (turn + 7 * (i : Int)) % 26) j0 j1
        simp only [aNext, aAsg, aName, aVar, slot, put, aC, aOp, aUn, aTest, aChain, aAnd, aOr, aNot, aAndV, aOrV, aNotV, aIf, aNil, aCons, aTup, aLst, aCB, aBM, aSl, aPart, aNoPart, aDrop, aRet, aIfS, aPar, aAug, aSub, aUnp, aGNil, aGCons, aCall, aYes, aNilEq, aJoin, wRange1, wAny, wEnum, wEnumD, wKeys, wVals, wItems, lkAt, aLc, aDc, aDc2, aDNew, aRev, aSetd, aGet1, aGet2, isD, dAt,  wipeA, List.set_cons_zero, List.set_cons_succ, asStrs_map, bSub, bAdd, bIAdd, bNeg, bIx, bSl, bInt, bSet, bPop, bInsert, bAppend, bExtend, bML, bEqB, bIsB, bInB, one, bLen, bList, bTuple, bSum, bToInt, bIsi, bRepr, tyA, at0, at1, at2, at3, ixL0, ixL1, ixL2, set0, set1, set2, updA_same, updA_twice, List.append_nil, List.cons_append, List.nil_append, id_eq, e]
        have l1 : (cutS ⟨cs.toArray⟩ none (some at_)).length = at_.toNat := by
          rw [str_len, cutS_G, cutG_to u0, List.length_take, ← str_len, hcl]; omega
        have l2 : (cutS ⟨cs.toArray⟩ (some (at_ + 1)) (some (1 + size))).length = (1 + size).toNat - (at_ + 1).toNat := by
          rw [str_len, cutS_G, cutG_at (by omega) (by omega), List.length_take, List.length_drop, ← str_len, hcl]; omega
        have l3 : (⟨#[x]⟩ : Str).length = 1 := rfl
        rw [hcl, len_add, l1, l2, l3]
        refine ⟨by decide, .inl (by decide), by decide, by decide, sz (by omega), by decide, sz (by omega), .keep (hk _ ⟨?_, ?_, fun y hy => ?_⟩)⟩
        · rw [len_add, len_add, l1, l2, l3]; omega
        · rw [len_add, len_add, l1, l2, l3]; omega
        · rw [cps_add, cps_add, cutS_G, cutS_G] at hy
          rcases List.mem_append.mp hy with hy | hy
          · rcases List.mem_append.mp hy with hy | hy
            · exact hcs y (cutG_mem hy)
            · have : y = x := by simpa using hy
              subst this
              exact letters_ok y hx
          · exact hcs y (cutG_mem hy)
  · exact h.elim
end K03

namespace K03
open PySem PySem.Spec PyProof.Rows L2 Ab
variable {K : PySem.W.Frag}
def spNumber : ASp := fun xs m q => match xs with
  | [.ref d] => Own m ∧ (∃ c, m d = some (.deck c)) ∧ ∀ i, Far i → q (.int i) m
  | _ => False
theorem r__law_number : Reads K n__law_number (t__law_number K spDraw) spNumber := by
  intro H xs m q h g
  unfold spNumber at h
  split at h
  · rename_i d
    obtain ⟨w, ⟨c, hd⟩, k⟩ := h
    refine ⟨_, g, ?_⟩
    rw [show startA n__law_number [.ref d] = [some (.ref d), none] from rfl]
    unfold t__law_number
    refine seq_i ?_
    simp only [aNext, aAsg, aName, aVar, slot, put, aC, aOp, aUn, aTest, aChain, aAnd, aOr, aNot, aAndV, aOrV, aNotV, aIf, aNil, aCons, aTup, aLst, aCB, aBM, aSl, aPart, aNoPart, aDrop, aRet, aIfS, aPar, aAug, aSub, aUnp, aGNil, aGCons, aCall, aYes, aNilEq, aJoin, wRange1, wAny, wEnum, wEnumD, wKeys, wVals, wItems, lkAt, aLc, aDc, aDc2, aDNew, aRev, aSetd, aGet1, aGet2, isD, dAt,  wipeA, List.set_cons_zero, List.set_cons_succ, asStrs_map, bSub, bAdd, bIAdd, bNeg, bIx, bSl, bInt, bSet, bPop, bInsert, bAppend, bExtend, bML, bEqB, bIsB, bInB, one, bLen, bList, bTuple, bSum, bToInt, bIsi, bRepr, tyA, at0, at1, at2, at3, ixL0, ixL1, ixL2, set0, set1, set2, updA_same, updA_twice, List.append_nil, List.cons_append, List.nil_append, id_eq, spDraw]
    refine ⟨⟨by decide, by decide, by decide⟩, ⟨c, hd⟩, by decide, by decide, fun i i0 i1 => ⟨⟨by decide, by decide, by decide⟩, .inr (by decide), ⟨by decide, by decide, by decide⟩, ⟨c, hd⟩, by decide, by decide, fun j j0 j1 => ?_⟩⟩
    refine .keep ?_
    have e6 : (10 : Int) ^ (6 : Int).toNat = 1000000 := by decide
    have e12 : (10 : Int) ^ (12 : Int).toNat = 1000000000000 := by decide
    rw [e6] at i1 j1 ⊢
    generalize hf : i * 1000000 + j = far
    have f0 : 0 ≤ far := by omega
    have f1 : far < 1000000000000 := by omega
    simp only [aNext, aAsg, aName, aVar, slot, put, aC, aOp, aUn, aTest, aChain, aAnd, aOr, aNot, aAndV, aOrV, aNotV, aIf, aNil, aCons, aTup, aLst, aCB, aBM, aSl, aPart, aNoPart, aDrop, aRet, aIfS, aPar, aAug, aSub, aUnp, aGNil, aGCons, aCall, aYes, aNilEq, aJoin, wRange1, wAny, wEnum, wEnumD, wKeys, wVals, wItems, lkAt, aLc, aDc, aDc2, aDNew, aRev, aSetd, aGet1, aGet2, isD, dAt,  wipeA, List.set_cons_zero, List.set_cons_succ, asStrs_map, bSub, bAdd, bIAdd, bNeg, bIx, bSl, bInt, bSet, bPop, bInsert, bAppend, bExtend, bML, bEqB, bIsB, bInB, one, bLen, bList, bTuple, bSum, bToInt, bIsi, bRepr, tyA, at0, at1, at2, at3, ixL0, ixL1, ixL2, set0, set1, set2, updA_same, updA_twice, List.append_nil, List.cons_append, List.nil_append, id_eq, spDraw]
    refine ⟨⟨by decide, by decide, by decide⟩, sz (by simp), fun p hp => ⟨⟨c, updA_keep hp hd⟩, by decide, by decide, fun r r0 r1 => ?_⟩⟩
    rw [e12]
    have hi : ∀ x ∈ [0, 1, 2, 9, 10, 99, 100, -1, -10, 1000000000000, far, 0 - far], Far x := by
      simp only [List.forall_mem_cons]
      refine ⟨?_, ?_, ?_, ?_, ?_, ?_, ?_, ?_, ?_, ?_, ?_, ?_, fun _ z => (List.not_mem_nil z).elim⟩ <;> exact ⟨by omega, by omega⟩
    obtain ⟨x, e, hx⟩ := at_lt (xs := [0, 1, 2, 9, 10, 99, 100, -1, -10, 1000000000000, far, 0 - far].map AV.int) r0 r1
    obtain ⟨x', hx', rfl⟩ := List.mem_map.mp hx
    have e : atI [AV.int 0, AV.int 1, AV.int 2, AV.int 9, AV.int 10, AV.int 99, AV.int 100, AV.int (-1), AV.int (-10), AV.int 1000000000000, AV.int far, AV.int (0 - far)] r = some (AV.int x') := e
    simp only [e]
    exact Fin.pure w (Sub.refl.new hp) (k x' (hi x' hx'))
  · exact h.elim
structure Src (m : AHp) (ws us : Addr) (W : List Str) (U : List Int) : Prop where
  w : m ws = some (.lst (W.map .str))
  u : m us = some (.lst (U.map .int))
  ne : W ≠ []
  ok : ∀ x ∈ W, Word x
  wl : W.length < 1000
  ul : U.length < 1000
theorem Src.keep {m : AHp} {ws us p : Addr} {W : List Str} {U : List Int} {o : AO} (h : Src m ws us W U) (hp : m p = none) : Src (updA m p o) ws us W U :=
  ⟨updA_keep hp h.w, updA_keep hp h.u, h.ne, h.ok, h.wl, h.ul⟩
theorem Src.put {m : AHp} {ws us p : Addr} {W : List Str} {U : List Int} {o : AO} (h : Src m ws us W U) (h1 : ws ≠ p) (h2 : us ≠ p) : Src (updA m p o) ws us W U :=
  ⟨by rw [updA_ne h1]; exact h.w, by rw [updA_ne h2]; exact h.u, h.ne, h.ok, h.wl, h.ul⟩
def spTip : ASp := fun xs m q => match xs with
  | [.ref d, .ref ws, .ref us] => Own m ∧ (∃ c, m d = some (.deck c)) ∧ ∃ W U, Src m ws us W U ∧ ∀ t : Trm, t.tip → t.ok Far (· ∈ U) → q t.av m
  | _ => False
theorem r__law_tip : Reads K n__law_tip (t__law_tip K spDraw spNumber) spTip := by
  intro H xs m q h g
  unfold spTip at h
  split at h
  · rename_i d ws us
    obtain ⟨w, ⟨c, hd⟩, W, U, S, k⟩ := h
    refine ⟨_, g, ?_⟩
    rw [show startA n__law_tip [.ref d, .ref ws, .ref us] = [some (.ref d), some (.ref ws), some (.ref us), none] from rfl]
    unfold t__law_tip
    refine seq_i ?_
    simp only [aNext, aAsg, aName, aVar, slot, put, aC, aOp, aUn, aTest, aChain, aAnd, aOr, aNot, aAndV, aOrV, aNotV, aIf, aNil, aCons, aTup, aLst, aCB, aBM, aSl, aPart, aNoPart, aDrop, aRet, aIfS, aPar, aAug, aSub, aUnp, aGNil, aGCons, aCall, aYes, aNilEq, aJoin, wRange1, wAny, wEnum, wEnumD, wKeys, wVals, wItems, lkAt, aLc, aDc, aDc2, aDNew, aRev, aSetd, aGet1, aGet2, isD, dAt,  wipeA, List.set_cons_zero, List.set_cons_succ, asStrs_map, bSub, bAdd, bIAdd, bNeg, bIx, bSl, bInt, bSet, bPop, bInsert, bAppend, bExtend, bML, bEqB, bIsB, bInB, one, bLen, bList, bTuple, bSum, bToInt, bIsi, bRepr, tyA, at0, at1, at2, at3, ixL0, ixL1, ixL2, set0, set1, set2, updA_same, updA_twice, List.append_nil, List.cons_append, List.nil_append, id_eq, spDraw]
    refine ⟨⟨c, hd⟩, by decide, by decide, fun kind i0 i1 => .keep ?_⟩
    have wl := S.wl
    have ul := S.ul
    have tail : ∀ d' : AEnds, d'.rt = (fun v m' => Fin K q v m') → aSeq K (aIfS (aTest (aOp bEq (aVar 3) (aC (.int 3)))) (aRet (aTup aNil)) aNext) (aSeq K (aIfS (aTest (aOp bLt (aVar 3) (aC (.int 6)))) (aRet (aOp bIx (aVar 1) (aCall spDraw [] (aCons (aVar 0) (aCons (aCB bLen (aCons (aVar 1) aNil)) aNil))))) aNext) (aRet (aCall spNumber [] (aCons (aVar 0) aNil)))) d' [some (.ref d), some (.ref ws), some (.ref us), some (.int kind)] m := by
      intro d' hd'
      refine seq_i ?_
      simp only [aNext, aAsg, aName, aVar, slot, put, aC, aOp, aUn, aTest, aChain, aAnd, aOr, aNot, aAndV, aOrV, aNotV, aIf, aNil, aCons, aTup, aLst, aCB, aBM, aSl, aPart, aNoPart, aDrop, aRet, aIfS, aPar, aAug, aSub, aUnp, aGNil, aGCons, aCall, aYes, aNilEq, aJoin, wRange1, wAny, wEnum, wEnumD, wKeys, wVals, wItems, lkAt, aLc, aDc, aDc2, aDNew, aRev, aSetd, aGet1, aGet2, isD, dAt,  wipeA, List.set_cons_zero, List.set_cons_succ, asStrs_map, bSub, bAdd, bIAdd, bNeg, bIx, bSl, bInt, bSet, bPop, bInsert, bAppend, bExtend, bML, bEqB, bIsB, bInB, one, bLen, bList, bTuple, bSum, bToInt, bIsi, bRepr, tyA, at0, at1, at2, at3, ixL0, ixL1, ixL2, set0, set1, set2, updA_same, updA_twice, List.append_nil, List.cons_append, List.nil_append, id_eq]
      by_cases h3 : kind = 3
      · rw [if_pos (by simpa using h3)]
        refine ⟨sz (by simp), ?_⟩
        rw [hd']
        exact Fin.same (k .nil trivial trivial)
      rw [if_neg (by simpa using h3)]
      refine seq_n ?_
      simp only [aNext, aAsg, aName, aVar, slot, put, aC, aOp, aUn, aTest, aChain, aAnd, aOr, aNot, aAndV, aOrV, aNotV, aIf, aNil, aCons, aTup, aLst, aCB, aBM, aSl, aPart, aNoPart, aDrop, aRet, aIfS, aPar, aAug, aSub, aUnp, aGNil, aGCons, aCall, aYes, aNilEq, aJoin, wRange1, wAny, wEnum, wEnumD, wKeys, wVals, wItems, lkAt, aLc, aDc, aDc2, aDNew, aRev, aSetd, aGet1, aGet2, isD, dAt,  wipeA, List.set_cons_zero, List.set_cons_succ, asStrs_map, bSub, bAdd, bIAdd, bNeg, bIx, bSl, bInt, bSet, bPop, bInsert, bAppend, bExtend, bML, bEqB, bIsB, bInB, one, bLen, bList, bTuple, bSum, bToInt, bIsi, bRepr, tyA, at0, at1, at2, at3, ixL0, ixL1, ixL2, set0, set1, set2, updA_same, updA_twice, List.append_nil, List.cons_append, List.nil_append, id_eq]
      refine ⟨trivial, ?_⟩
      by_cases h6 : kind < 6
      · rw [if_pos (by simpa using h6)]
        simp only [S.w, spDraw, List.length_map]
        have : 0 < W.length := List.length_pos_iff.mpr S.ne
        refine ⟨⟨c, hd⟩, by omega, by omega, fun r r0 r1 => ?_⟩
        obtain ⟨x, e, hx⟩ := at_lt (xs := W.map AV.str) r0 (by rw [List.length_map]; exact r1)
        obtain ⟨x', hx', rfl⟩ := List.mem_map.mp hx
        simp only [e, hd']
        exact Fin.same (k (.wd x') trivial (S.ok x' hx'))
      · rw [if_neg (by simpa using h6)]
        refine .keep ?_
        simp only [aNext, aAsg, aName, aVar, slot, put, aC, aOp, aUn, aTest, aChain, aAnd, aOr, aNot, aAndV, aOrV, aNotV, aIf, aNil, aCons, aTup, aLst, aCB, aBM, aSl, aPart, aNoPart, aDrop, aRet, aIfS, aPar, aAug, aSub, aUnp, aGNil, aGCons, aCall, aYes, aNilEq, aJoin, wRange1, wAny, wEnum, wEnumD, wKeys, wVals, wItems, lkAt, aLc, aDc, aDc2, aDNew, aRev, aSetd, aGet1, aGet2, isD, dAt,  wipeA, List.set_cons_zero, List.set_cons_succ, asStrs_map, bSub, bAdd, bIAdd, bNeg, bIx, bSl, bInt, bSet, bPop, bInsert, bAppend, bExtend, bML, bEqB, bIsB, bInB, one, bLen, bList, bTuple, bSum, bToInt, bIsi, bRepr, tyA, at0, at1, at2, at3, ixL0, ixL1, ixL2, set0, set1, set2, updA_same, updA_twice, List.append_nil, List.cons_append, List.nil_append, id_eq, spNumber, hd']
        exact ⟨w, ⟨c, hd⟩, fun i hi => Fin.same (k (.num i) trivial hi)⟩
    refine seq_i ?_
    simp only [aNext, aAsg, aName, aVar, slot, put, aC, aOp, aUn, aTest, aChain, aAnd, aOr, aNot, aAndV, aOrV, aNotV, aIf, aNil, aCons, aTup, aLst, aCB, aBM, aSl, aPart, aNoPart, aDrop, aRet, aIfS, aPar, aAug, aSub, aUnp, aGNil, aGCons, aCall, aYes, aNilEq, aJoin, wRange1, wAny, wEnum, wEnumD, wKeys, wVals, wItems, lkAt, aLc, aDc, aDc2, aDNew, aRev, aSetd, aGet1, aGet2, isD, dAt,  wipeA, List.set_cons_zero, List.set_cons_succ, asStrs_map, bSub, bAdd, bIAdd, bNeg, bIx, bSl, bInt, bSet, bPop, bInsert, bAppend, bExtend, bML, bEqB, bIsB, bInB, one, bLen, bList, bTuple, bSum, bToInt, bIsi, bRepr, tyA, at0, at1, at2, at3, ixL0, ixL1, ixL2, set0, set1, set2, updA_same, updA_twice, List.append_nil, List.cons_append, List.nil_append, id_eq, S.u]
    refine ⟨trivial, ?_⟩
    by_cases h3 : kind < 3
    · rw [if_pos (by simpa using h3)]
      cases U with
      | nil => exact .keep (tail _ rfl)
      | cons u U =>
        rw [if_pos (show (!(List.map AV.int (u :: U)).isEmpty) = true from rfl)]
        simp only [spDraw, List.length_map, S.u]
        refine ⟨⟨c, hd⟩, by simp only [List.length_cons]; omega, by omega, fun r r0 r1 => ?_⟩
        obtain ⟨x, e, hx⟩ := at_lt (xs := (u :: U).map AV.int) r0 (by rw [List.length_map]; exact r1)
        obtain ⟨x', hx', rfl⟩ := List.mem_map.mp hx
        simp only [e]
        exact ⟨sz (by simp), Fin.same (k (.unk x') trivial hx')⟩
    · rw [if_neg (by simpa using h3), if_neg (by decide)]
      exact .keep (tail _ rfl)
  · exact h.elim
end K03

namespace K03
open PySem PySem.Spec PyProof.Rows L2 Ab
variable {K : PySem.W.Frag}
def spTerm (n : Nat) : ASp := fun xs m q => match xs with
  | [.ref d, .ref ws, .ref us, .int deep, .ref left] => Own m ∧ (∃ c, m d = some (.deck c)) ∧ deep ≤ n ∧ ∃ W U, Src m ws us W U ∧ ws ≠ left ∧ us ≠ left ∧ ∃ l : Int, m left = some (.lst [.int l]) ∧
    ∀ (t : Trm) (l' : Int), t.ok Far (· ∈ U) → (t.deep : Int) ≤ max 1 deep → 2 * (t.pairs : Int) = l - l' → (0 ≤ l → 0 ≤ l') → q t.av (updA m left (.lst [.int l']))
  | _ => False
theorem spTip_at {d ws us c : Addr} {m : AHp} {W : List Str} {U : List Int} {q : AK} (w : Own m) (hd : m d = some (.deck c)) (S : Src m ws us W U) (k : ∀ t : Trm, t.tip → t.ok Far (· ∈ U) → q t.av m) : spTip [.ref d, .ref ws, .ref us] m q := ⟨w, ⟨c, hd⟩, W, U, S, k⟩
theorem r__law_term (n : Nat) {sp : ASp} (hsp : ∀ xs m q, n ≠ 0 → spTerm (n - 1) xs m q → sp xs m q) : Reads K n__law_term (t__law_term K spDraw sp spTip) (spTerm n) := by
  intro H xs m q h g
  unfold spTerm at h
  split at h
  · rename_i d ws us deep left
    obtain ⟨w, ⟨c, hd⟩, hn, W, U, S, n1, n2, l, hl, k⟩ := h
    have n0 : d ≠ left := fun e => by rw [← e, hd] at hl; cases hl
    refine ⟨_, g, ?_⟩
    rw [show startA n__law_term [.ref d, .ref ws, .ref us, .int deep, .ref left] = [some (.ref d), some (.ref ws), some (.ref us), some (.int deep), some (.ref left), none, none] from rfl]
    unfold t__law_term
    have tip : spTip [.ref d, .ref ws, .ref us] m (Fin K q) := spTip_at w hd S fun t h1 h2 => by
      have := Trm.tip_deep h1
      have e := k t l h2 (by omega) (by omega) (fun z => z)
      rw [updA_self hl] at e
      exact Fin.same e
    refine seq_i ?_
    simp only [aNext, aAsg, aName, aVar, slot, put, aC, aOp, aUn, aTest, aChain, aAnd, aOr, aNot, aAndV, aOrV, aNotV, aIf, aNil, aCons, aTup, aLst, aCB, aBM, aSl, aPart, aNoPart, aDrop, aRet, aIfS, aPar, aAug, aSub, aUnp, aGNil, aGCons, aCall, aYes, aNilEq, aJoin, wRange1, wAny, wEnum, wEnumD, wKeys, wVals, wItems, lkAt, aLc, aDc, aDc2, aDNew, aRev, aSetd, aGet1, aGet2, isD, dAt,  wipeA, List.set_cons_zero, List.set_cons_succ, asStrs_map, bSub, bAdd, bIAdd, bNeg, bIx, bSl, bInt, bSet, bPop, bInsert, bAppend, bExtend, bML, bEqB, bIsB, bInB, one, bLen, bList, bTuple, bSum, bToInt, bIsi, bRepr, tyA, at0, at1, at2, at3, ixL0, ixL1, ixL2, set0, set1, set2, updA_same, updA_twice, List.append_nil, List.cons_append, List.nil_append, id_eq, spDraw]
    refine ⟨⟨c, hd⟩, by decide, by decide, fun kind i0 i1 => .keep ?_⟩
    refine seq_i ?_
    simp only [aNext, aAsg, aName, aVar, slot, put, aC, aOp, aUn, aTest, aChain, aAnd, aOr, aNot, aAndV, aOrV, aNotV, aIf, aNil, aCons, aTup, aLst, aCB, aBM, aSl, aPart, aNoPart, aDrop, aRet, aIfS, aPar, aAug, aSub, aUnp, aGNil, aGCons, aCall, aYes, aNilEq, aJoin, wRange1, wAny, wEnum, wEnumD, wKeys, wVals, wItems, lkAt, aLc, aDc, aDc2, aDNew, aRev, aSetd, aGet1, aGet2, isD, dAt,  wipeA, List.set_cons_zero, List.set_cons_succ, asStrs_map, bSub, bAdd, bIAdd, bNeg, bIx, bSl, bInt, bSet, bPop, bInsert, bAppend, bExtend, bML, bEqB, bIsB, bInB, one, bLen, bList, bTuple, bSum, bToInt, bIsi, bRepr, tyA, at0, at1, at2, at3, ixL0, ixL1, ixL2, set0, set1, set2, updA_same, updA_twice, List.append_nil, List.cons_append, List.nil_append, id_eq, hl]
    refine ⟨trivial, ?_⟩
    by_cases h2 : deep < 2
    · rw [if_pos (by simpa using h2), if_pos trivial]; exact tip
    rw [if_neg (by simpa using h2)]
    refine ⟨trivial, ?_⟩
    by_cases h3 : l < 2
    · rw [if_pos (by simpa using h3), if_pos trivial]; exact tip
    rw [if_neg (by simpa using h3)]
    by_cases h4 : kind = 0
    · rw [if_pos (by simpa using h4)]; exact tip
    rw [if_neg (by simpa using h4)]
    refine .keep ?_
    refine seq_i ?_
    simp only [aNext, aAsg, aName, aVar, slot, put, aC, aOp, aUn, aTest, aChain, aAnd, aOr, aNot, aAndV, aOrV, aNotV, aIf, aNil, aCons, aTup, aLst, aCB, aBM, aSl, aPart, aNoPart, aDrop, aRet, aIfS, aPar, aAug, aSub, aUnp, aGNil, aGCons, aCall, aYes, aNilEq, aJoin, wRange1, wAny, wEnum, wEnumD, wKeys, wVals, wItems, lkAt, aLc, aDc, aDc2, aDNew, aRev, aSetd, aGet1, aGet2, isD, dAt,  wipeA, List.set_cons_zero, List.set_cons_succ, asStrs_map, bSub, bAdd, bIAdd, bNeg, bIx, bSl, bInt, bSet, bPop, bInsert, bAppend, bExtend, bML, bEqB, bIsB, bInB, one, bLen, bList, bTuple, bSum, bToInt, bIsi, bRepr, tyA, at0, at1, at2, at3, ixL0, ixL1, ixL2, set0, set1, set2, updA_same, updA_twice, List.append_nil, List.cons_append, List.nil_append, id_eq, hl]
    refine .keep ?_
    have hm2 : ∀ o, updA m left o left = some o := fun o => updA_same
    have w2 : ∀ o, (∀ c, o ≠ .deck c) → Own (updA m left o) := fun o no => w.put (fun b e => by rw [hl] at e; cases e) no
    have hd2 : ∀ o, updA m left o d = some (.deck c) := fun o => by rw [updA_ne n0]; exact hd
    have S2 : ∀ o, Src (updA m left o) ws us W U := fun o => S.put n1 n2
    refine seq_i ?_
    simp only [aNext, aAsg, aName, aVar, slot, put, aC, aOp, aUn, aTest, aChain, aAnd, aOr, aNot, aAndV, aOrV, aNotV, aIf, aNil, aCons, aTup, aLst, aCB, aBM, aSl, aPart, aNoPart, aDrop, aRet, aIfS, aPar, aAug, aSub, aUnp, aGNil, aGCons, aCall, aYes, aNilEq, aJoin, wRange1, wAny, wEnum, wEnumD, wKeys, wVals, wItems, lkAt, aLc, aDc, aDc2, aDNew, aRev, aSetd, aGet1, aGet2, isD, dAt,  wipeA, List.set_cons_zero, List.set_cons_succ, asStrs_map, bSub, bAdd, bIAdd, bNeg, bIx, bSl, bInt, bSet, bPop, bInsert, bAppend, bExtend, bML, bEqB, bIsB, bInB, one, bLen, bList, bTuple, bSum, bToInt, bIsi, bRepr, tyA, at0, at1, at2, at3, ixL0, ixL1, ixL2, set0, set1, set2, updA_same, updA_twice, List.append_nil, List.cons_append, List.nil_append, id_eq, hl]
    refine ⟨sz (by simp), fun p hp => ?_⟩
    have hv : ∃ v : Int, atI [AV.int (deep - 1), AV.int 1] (if decide (kind = 1) = true then 1 else 0) = some (.int v) ∧ v ≤ deep - 1 ∧ 1 ≤ v := by
      by_cases h5 : kind = 1
      · rw [if_pos (by simpa using h5)]
        exact ⟨1, at1, by omega, by omega⟩
      · rw [if_neg (by simpa using h5)]
        exact ⟨deep - 1, at0, by omega, by omega⟩
    obtain ⟨v, e, v1, v2⟩ := hv
    simp only [e]
    have np : left ≠ p := fun e => by rw [← e, updA_same] at hp; cases hp
    have hs := S2 (.lst [.int (l - 2)])
    refine hsp _ _ _ (by omega) ⟨(w2 _ (fun c e => by cases e)).free hp (fun c e => by cases e), ⟨c, updA_keep hp (hd2 _)⟩, by omega, W, U, hs.keep hp, n1, n2, l - 2, updA_keep hp updA_same, fun t1 l1 o1 de1 p1 z1 => ?_⟩
    rw [updA_swap np, updA_twice]
    refine Fg.drop1 (w2 _ (fun c e => by cases e)) (by rw [updA_ne (Ne.symm np)] at hp ⊢; exact hp) ?_
    simp only [aNext, aAsg, aName, aVar, slot, put, aC, aOp, aUn, aTest, aChain, aAnd, aOr, aNot, aAndV, aOrV, aNotV, aIf, aNil, aCons, aTup, aLst, aCB, aBM, aSl, aPart, aNoPart, aDrop, aRet, aIfS, aPar, aAug, aSub, aUnp, aGNil, aGCons, aCall, aYes, aNilEq, aJoin, wRange1, wAny, wEnum, wEnumD, wKeys, wVals, wItems, lkAt, aLc, aDc, aDc2, aDNew, aRev, aSetd, aGet1, aGet2, isD, dAt,  wipeA, List.set_cons_zero, List.set_cons_succ, asStrs_map, bSub, bAdd, bIAdd, bNeg, bIx, bSl, bInt, bSet, bPop, bInsert, bAppend, bExtend, bML, bEqB, bIsB, bInB, one, bLen, bList, bTuple, bSum, bToInt, bIsi, bRepr, tyA, at0, at1, at2, at3, ixL0, ixL1, ixL2, set0, set1, set2, updA_same, updA_twice, List.append_nil, List.cons_append, List.nil_append, id_eq]
    refine hsp _ _ _ (by omega) ⟨w2 _ (fun c e => by cases e), ⟨c, hd2 _⟩, by omega, W, U, S2 _, n1, n2, l1, updA_same, fun t2 l2 o2 de2 p2 z2 => ?_⟩
    rw [updA_twice]
    refine ⟨sz (by simp), Fin.same (k (.pair t1 t2) l2 ⟨o1, o2⟩ ?_ ?_ ?_)⟩
    · simp only [Trm.deep]; omega
    · simp only [Trm.pairs]; omega
    · omega
  · exact h.elim
def spAny : ASp := fun xs m q => match xs with
  | [.ref d, .ref ws, .ref us] => Own m ∧ (∃ c, m d = some (.deck c)) ∧ ∃ W U, Src m ws us W U ∧ ∀ t : Trm, t.ok Far (· ∈ U) → t.deep ≤ 30 → t.pairs ≤ 58 → q t.av m
  | _ => False
theorem r__law_any_term : Reads K n__law_any_term (t__law_any_term K spDraw (spTerm 29) spTip) spAny := by
  intro H xs m q h g
  unfold spAny at h
  split at h
  · rename_i d ws us
    obtain ⟨w, ⟨c, hd⟩, W, U, S, k⟩ := h
    refine ⟨_, g, ?_⟩
    rw [show startA n__law_any_term [.ref d, .ref ws, .ref us] = [some (.ref d), some (.ref ws), some (.ref us), none, none, none, none] from rfl]
    unfold t__law_any_term
    refine seq_i ?_
    simp only [aNext, aAsg, aName, aVar, slot, put, aC, aOp, aUn, aTest, aChain, aAnd, aOr, aNot, aAndV, aOrV, aNotV, aIf, aNil, aCons, aTup, aLst, aCB, aBM, aSl, aPart, aNoPart, aDrop, aRet, aIfS, aPar, aAug, aSub, aUnp, aGNil, aGCons, aCall, aYes, aNilEq, aJoin, wRange1, wAny, wEnum, wEnumD, wKeys, wVals, wItems, lkAt, aLc, aDc, aDc2, aDNew, aRev, aSetd, aGet1, aGet2, isD, dAt,  wipeA, List.set_cons_zero, List.set_cons_succ, asStrs_map, bSub, bAdd, bIAdd, bNeg, bIx, bSl, bInt, bSet, bPop, bInsert, bAppend, bExtend, bML, bEqB, bIsB, bInB, one, bLen, bList, bTuple, bSum, bToInt, bIsi, bRepr, tyA, at0, at1, at2, at3, ixL0, ixL1, ixL2, set0, set1, set2, updA_same, updA_twice, List.append_nil, List.cons_append, List.nil_append, id_eq, spDraw]
    refine ⟨⟨c, hd⟩, by decide, by decide, fun kind i0 i1 => .keep ?_⟩
    refine seq_i ?_
    simp only [aNext, aAsg, aName, aVar, slot, put, aC, aOp, aUn, aTest, aChain, aAnd, aOr, aNot, aAndV, aOrV, aNotV, aIf, aNil, aCons, aTup, aLst, aCB, aBM, aSl, aPart, aNoPart, aDrop, aRet, aIfS, aPar, aAug, aSub, aUnp, aGNil, aGCons, aCall, aYes, aNilEq, aJoin, wRange1, wAny, wEnum, wEnumD, wKeys, wVals, wItems, lkAt, aLc, aDc, aDc2, aDNew, aRev, aSetd, aGet1, aGet2, isD, dAt,  wipeA, List.set_cons_zero, List.set_cons_succ, asStrs_map, bSub, bAdd, bIAdd, bNeg, bIx, bSl, bInt, bSet, bPop, bInsert, bAppend, bExtend, bML, bEqB, bIsB, bInB, one, bLen, bList, bTuple, bSum, bToInt, bIsi, bRepr, tyA, at0, at1, at2, at3, ixL0, ixL1, ixL2, set0, set1, set2, updA_same, updA_twice, List.append_nil, List.cons_append, List.nil_append, id_eq]
    by_cases h5 : kind = 5
    · rw [if_pos (by simpa using h5)]
      refine ⟨sz (by simp), fun p hp => ?_⟩
      have n1 : ws ≠ p := fun e => by rw [← e, S.w] at hp; cases hp
      have n2 : us ≠ p := fun e => by rw [← e, S.u] at hp; cases hp
      refine ⟨w.free hp (fun c e => by cases e), ⟨c, updA_keep hp hd⟩, by decide, W, U, S.keep hp, n1, n2, 116, updA_same, fun t l' o de pr z => ?_⟩
      rw [updA_twice]
      exact Fin.pure w (Sub.refl.new hp) (k t o (by omega) (by omega))
    rw [if_neg (by simpa using h5)]
    refine .keep ?_
    refine seq_i ?_
    simp only [aNext, aAsg, aName, aVar, slot, put, aC, aOp, aUn, aTest, aChain, aAnd, aOr, aNot, aAndV, aOrV, aNotV, aIf, aNil, aCons, aTup, aLst, aCB, aBM, aSl, aPart, aNoPart, aDrop, aRet, aIfS, aPar, aAug, aSub, aUnp, aGNil, aGCons, aCall, aYes, aNilEq, aJoin, wRange1, wAny, wEnum, wEnumD, wKeys, wVals, wItems, lkAt, aLc, aDc, aDc2, aDNew, aRev, aSetd, aGet1, aGet2, isD, dAt,  wipeA, List.set_cons_zero, List.set_cons_succ, asStrs_map, bSub, bAdd, bIAdd, bNeg, bIx, bSl, bInt, bSet, bPop, bInsert, bAppend, bExtend, bML, bEqB, bIsB, bInB, one, bLen, bList, bTuple, bSum, bToInt, bIsi, bRepr, tyA, at0, at1, at2, at3, ixL0, ixL1, ixL2, set0, set1, set2, updA_same, updA_twice, List.append_nil, List.cons_append, List.nil_append, id_eq]
    refine ⟨trivial, ?_⟩
    by_cases h6 : 5 < kind
    · rw [if_pos (by simpa using h6)]
      refine seq_i ?_
      simp only [aNext, aAsg, aName, aVar, slot, put, aC, aOp, aUn, aTest, aChain, aAnd, aOr, aNot, aAndV, aOrV, aNotV, aIf, aNil, aCons, aTup, aLst, aCB, aBM, aSl, aPart, aNoPart, aDrop, aRet, aIfS, aPar, aAug, aSub, aUnp, aGNil, aGCons, aCall, aYes, aNilEq, aJoin, wRange1, wAny, wEnum, wEnumD, wKeys, wVals, wItems, lkAt, aLc, aDc, aDc2, aDNew, aRev, aSetd, aGet1, aGet2, isD, dAt,  wipeA, List.set_cons_zero, List.set_cons_succ, asStrs_map, bSub, bAdd, bIAdd, bNeg, bIx, bSl, bInt, bSet, bPop, bInsert, bAppend, bExtend, bML, bEqB, bIsB, bInB, one, bLen, bList, bTuple, bSum, bToInt, bIsi, bRepr, tyA, at0, at1, at2, at3, ixL0, ixL1, ixL2, set0, set1, set2, updA_same, updA_twice, List.append_nil, List.cons_append, List.nil_append, id_eq]
      refine spTip_at w hd S fun t h1 h2 => .keep ?_
      refine seq_i ?_
      simp only [aFor, aNext, aAsg, aName, aVar, slot, put, aC, aOp, aUn, aTest, aChain, aAnd, aOr, aNot, aAndV, aOrV, aNotV, aIf, aNil, aCons, aTup, aLst, aCB, aBM, aSl, aPart, aNoPart, aDrop, aRet, aIfS, aPar, aAug, aSub, aUnp, aGNil, aGCons, aCall, aYes, aNilEq, aJoin, wRange1, wAny, wEnum, wEnumD, wKeys, wVals, wItems, lkAt, aLc, aDc, aDc2, aDNew, aRev, aSetd, aGet1, aGet2, isD, dAt,  wipeA, List.set_cons_zero, List.set_cons_succ, asStrs_map, bSub, bAdd, bIAdd, bNeg, bIx, bSl, bInt, bSet, bPop, bInsert, bAppend, bExtend, bML, bEqB, bIsB, bInB, one, bLen, bList, bTuple, bSum, bToInt, bIsi, bRepr, tyA, at0, at1, at2, at3, ixL0, ixL1, ixL2, set0, set1, set2, updA_same, updA_twice, List.append_nil, List.cons_append, List.nil_append, id_eq, spDraw]
      refine ⟨⟨c, hd⟩, by decide, by decide, fun r r0 r1 => ⟨by omega, by omega, ?_⟩⟩
      have td := Trm.tip_deep h1
      refine for_inv (fun xs' a' m' => ∃ (t : Trm) (x5 x6 : Option AV), a' = [some (.ref d), some (.ref ws), some (.ref us), some (.int kind), some t.av, x5, x6] ∧ m' = m ∧ t.ok Far (· ∈ U) ∧ t.deep + xs'.length ≤ 30 ∧ t.pairs + xs'.length ≤ 58) ?_ ?_ _ _ _ ⟨t, none, none, rfl, rfl, h2, by rw [upto_len]; omega, by rw [upto_len]; omega⟩
      · rintro x rr _ _ ⟨t, x5, x6, rfl, rfl, o1, b1, b2⟩
        refine ⟨trivial, fun nx hnx => ?_⟩
        simp only [aNext, aAsg, aName, aVar, slot, put, aC, aOp, aUn, aTest, aChain, aAnd, aOr, aNot, aAndV, aOrV, aNotV, aIf, aNil, aCons, aTup, aLst, aCB, aBM, aSl, aPart, aNoPart, aDrop, aRet, aIfS, aPar, aAug, aSub, aUnp, aGNil, aGCons, aCall, aYes, aNilEq, aJoin, wRange1, wAny, wEnum, wEnumD, wKeys, wVals, wItems, lkAt, aLc, aDc, aDc2, aDNew, aRev, aSetd, aGet1, aGet2, isD, dAt,  wipeA, List.set_cons_zero, List.set_cons_succ, asStrs_map, bSub, bAdd, bIAdd, bNeg, bIx, bSl, bInt, bSet, bPop, bInsert, bAppend, bExtend, bML, bEqB, bIsB, bInB, one, bLen, bList, bTuple, bSum, bToInt, bIsi, bRepr, tyA, at0, at1, at2, at3, ixL0, ixL1, ixL2, set0, set1, set2, updA_same, updA_twice, List.append_nil, List.cons_append, List.nil_append, id_eq]
        refine seq_i ?_
        simp only [aNext, aAsg, aName, aVar, slot, put, aC, aOp, aUn, aTest, aChain, aAnd, aOr, aNot, aAndV, aOrV, aNotV, aIf, aNil, aCons, aTup, aLst, aCB, aBM, aSl, aPart, aNoPart, aDrop, aRet, aIfS, aPar, aAug, aSub, aUnp, aGNil, aGCons, aCall, aYes, aNilEq, aJoin, wRange1, wAny, wEnum, wEnumD, wKeys, wVals, wItems, lkAt, aLc, aDc, aDc2, aDNew, aRev, aSetd, aGet1, aGet2, isD, dAt,  wipeA, List.set_cons_zero, List.set_cons_succ, asStrs_map, bSub, bAdd, bIAdd, bNeg, bIx, bSl, bInt, bSet, bPop, bInsert, bAppend, bExtend, bML, bEqB, bIsB, bInB, one, bLen, bList, bTuple, bSum, bToInt, bIsi, bRepr, tyA, at0, at1, at2, at3, ixL0, ixL1, ixL2, set0, set1, set2, updA_same, updA_twice, List.append_nil, List.cons_append, List.nil_append, id_eq]
        refine spTip_at w hd S fun t1 h3 h4 => .keep ?_
        simp only [aNext, aAsg, aName, aVar, slot, put, aC, aOp, aUn, aTest, aChain, aAnd, aOr, aNot, aAndV, aOrV, aNotV, aIf, aNil, aCons, aTup, aLst, aCB, aBM, aSl, aPart, aNoPart, aDrop, aRet, aIfS, aPar, aAug, aSub, aUnp, aGNil, aGCons, aCall, aYes, aNilEq, aJoin, wRange1, wAny, wEnum, wEnumD, wKeys, wVals, wItems, lkAt, aLc, aDc, aDc2, aDNew, aRev, aSetd, aGet1, aGet2, isD, dAt,  wipeA, List.set_cons_zero, List.set_cons_succ, asStrs_map, bSub, bAdd, bIAdd, bNeg, bIx, bSl, bInt, bSet, bPop, bInsert, bAppend, bExtend, bML, bEqB, bIsB, bInB, one, bLen, bList, bTuple, bSum, bToInt, bIsi, bRepr, tyA, at0, at1, at2, at3, ixL0, ixL1, ixL2, set0, set1, set2, updA_same, updA_twice, List.append_nil, List.cons_append, List.nil_append, id_eq]
        refine ⟨sz (by simp), sz (by simp), sz (by simp), fun p hp => ?_⟩
        have td1 := Trm.tip_deep h3
        rw [List.length_cons] at b1 b2
        have hv : ∃ t2 : Trm, atI [AV.tup [t1.av, t.av], AV.tup [t.av, t1.av]] (kind - 6) = some t2.av ∧ t2.ok Far (· ∈ U) ∧ t2.deep ≤ t.deep + 1 ∧ t2.pairs = t.pairs + 1 := by
          have tp := Trm.deep_pos t
          by_cases h7 : kind = 6
          · subst h7
            exact ⟨.pair t1 t, at0, ⟨h4, o1⟩, by simp only [Trm.deep]; omega, by simp only [Trm.pairs]; omega⟩
          · have : kind = 7 := by omega
            subst this
            exact ⟨.pair t t1, at1, ⟨o1, h4⟩, by simp only [Trm.deep]; omega, by simp only [Trm.pairs]; omega⟩
        obtain ⟨t2, e, o2, d2, p2⟩ := hv
        simp only [e]
        exact hnx _ _ (Fg.drop1 w hp ⟨t2, _, _, rfl, rfl, o2, by omega, by omega⟩)
      · rintro _ _ ⟨t, x5, x6, rfl, rfl, o1, b1, b2⟩
        refine ⟨trivial, .keep ?_⟩
        simp only [aNext, aAsg, aName, aVar, slot, put, aC, aOp, aUn, aTest, aChain, aAnd, aOr, aNot, aAndV, aOrV, aNotV, aIf, aNil, aCons, aTup, aLst, aCB, aBM, aSl, aPart, aNoPart, aDrop, aRet, aIfS, aPar, aAug, aSub, aUnp, aGNil, aGCons, aCall, aYes, aNilEq, aJoin, wRange1, wAny, wEnum, wEnumD, wKeys, wVals, wItems, lkAt, aLc, aDc, aDc2, aDNew, aRev, aSetd, aGet1, aGet2, isD, dAt,  wipeA, List.set_cons_zero, List.set_cons_succ, asStrs_map, bSub, bAdd, bIAdd, bNeg, bIx, bSl, bInt, bSet, bPop, bInsert, bAppend, bExtend, bML, bEqB, bIsB, bInB, one, bLen, bList, bTuple, bSum, bToInt, bIsi, bRepr, tyA, at0, at1, at2, at3, ixL0, ixL1, ixL2, set0, set1, set2, updA_same, updA_twice, List.append_nil, List.cons_append, List.nil_append, id_eq]
        exact Fin.same (k t o1 (by simpa using b1) (by simpa using b2))
    · rw [if_neg (by simpa using h6)]
      refine .keep ?_
      simp only [aNext, aAsg, aName, aVar, slot, put, aC, aOp, aUn, aTest, aChain, aAnd, aOr, aNot, aAndV, aOrV, aNotV, aIf, aNil, aCons, aTup, aLst, aCB, aBM, aSl, aPart, aNoPart, aDrop, aRet, aIfS, aPar, aAug, aSub, aUnp, aGNil, aGCons, aCall, aYes, aNilEq, aJoin, wRange1, wAny, wEnum, wEnumD, wKeys, wVals, wItems, lkAt, aLc, aDc, aDc2, aDNew, aRev, aSetd, aGet1, aGet2, isD, dAt,  wipeA, List.set_cons_zero, List.set_cons_succ, asStrs_map, bSub, bAdd, bIAdd, bNeg, bIx, bSl, bInt, bSet, bPop, bInsert, bAppend, bExtend, bML, bEqB, bIsB, bInB, one, bLen, bList, bTuple, bSum, bToInt, bIsi, bRepr, tyA, at0, at1, at2, at3, ixL0, ixL1, ixL2, set0, set1, set2, updA_same, updA_twice, List.append_nil, List.cons_append, List.nil_append, id_eq, spDraw]
      refine ⟨sz (by simp), fun p hp => ⟨⟨c, updA_keep hp hd⟩, by decide, by decide, fun r r0 r1 => ?_⟩⟩
      obtain ⟨x, e, hx⟩ := at_lt (xs := [AV.int 2, AV.int 3, AV.int 5]) r0 r1
      have hx : ∃ v : Int, x = .int v ∧ v ≤ 5 := by
        simp only [List.mem_cons, List.not_mem_nil, or_false] at hx
        rcases hx with rfl | rfl | rfl <;> exact ⟨_, rfl, by decide⟩
      obtain ⟨v, rfl, hv⟩ := hx
      simp only [e]
      refine ⟨sz (by simp), fun p2 hp2 => ⟨⟨c, updA_keep hp2 (updA_keep hp hd)⟩, by decide, by decide, fun s s0 s1 => ?_⟩⟩
      obtain ⟨y, e2, hy⟩ := at_lt (xs := [AV.int 2, AV.int 6, AV.int 12]) s0 s1
      have hy : ∃ v : Int, y = .int v ∧ v ≤ 12 ∧ 0 ≤ v := by
        simp only [List.mem_cons, List.not_mem_nil, or_false] at hy
        rcases hy with rfl | rfl | rfl <;> exact ⟨_, rfl, by decide, by decide⟩
      obtain ⟨l, rfl, hl, hl0⟩ := hy
      simp only [e2]
      refine ⟨sz (by simp), fun p3 hp3 => ?_⟩
      have S3 := ((S.keep hp (o := .lst [.int 2, .int 3, .int 5])).keep hp2 (o := .lst [.int 2, .int 6, .int 12])).keep hp3 (o := .lst [.int l])
      have w3 := ((w.free hp (o := .lst [.int 2, .int 3, .int 5]) (fun c e => by cases e)).free hp2 (o := .lst [.int 2, .int 6, .int 12]) (fun c e => by cases e)).free hp3 (o := .lst [.int l]) (fun c e => by cases e)
      have sub := ((Sub.refl (m := m)).alloc hp (o := .lst [.int 2, .int 3, .int 5])).alloc hp2 (o := .lst [.int 2, .int 6, .int 12])
      have n1 : ws ≠ p3 := fun e => by rw [← e, sub _ _ S.w] at hp3; cases hp3
      have n2 : us ≠ p3 := fun e => by rw [← e, sub _ _ S.u] at hp3; cases hp3
      refine ⟨w3, ⟨c, updA_keep hp3 (updA_keep hp2 (updA_keep hp hd))⟩, by omega, W, U, S3, n1, n2, l, updA_same, fun t l' o de pr z => ?_⟩
      exact Fin.pure w ((sub.alloc hp3 (o := .lst [.int l])).over (sub.none hp3)) (k t o (by omega) (by omega))
  · exact h.elim
end K03

namespace K03
open PySem PySem.Spec PyProof.Rows L2 Ab
variable {K : PySem.W.Frag}
theorem Trm.size_pos (t : Trm) : 1 ≤ t.size := by
  cases t <;> simp only [Trm.size] <;> omega
theorem Trm.sizes : ∀ W : List Trm, W.length ≤ (W.map Trm.size).sum
  | [] => Nat.le_refl _
  | x :: W => by
    have := Trm.sizes W
    have := Trm.size_pos x
    simp only [List.length_cons, List.map_cons, List.sum_cons]
    omega
def spTips : ASp := fun xs m q => match xs with
  | [x] => Own m ∧ ∃ (t : Trm) (A U : Int → Prop), x = t.av ∧ t.ok A U ∧ t.pairs ≤ 100000 ∧ ∀ p, m p = none → q (.ref p) (updA m p (.lst (t.tips.map Trm.av)))
  | _ => False
theorem r_tips_in : Reads K n_tips_in (t_tips_in K) spTips := by
  intro H xs m q h g
  unfold spTips at h
  split at h
  · obtain ⟨w, t, A, U, rfl, ok, hp, k⟩ := h
    refine ⟨_, g, ?_⟩
    rw [show startA n_tips_in [t.av] = [some t.av, none, none, none] from rfl]
    unfold t_tips_in
    refine seq_i ?_
    simp only [aNext, aAsg, aName, aVar, slot, put, aC, aOp, aUn, aTest, aChain, aAnd, aOr, aNot, aAndV, aOrV, aNotV, aIf, aNil, aCons, aTup, aLst, aCB, aBM, aSl, aPart, aNoPart, aDrop, aRet, aIfS, aPar, aAug, aSub, aUnp, aGNil, aGCons, aCall, aYes, aNilEq, aJoin, wRange1, wAny, wEnum, wEnumD, wKeys, wVals, wItems, lkAt, aLc, aDc, aDc2, aDNew, aRev, aSetd, aGet1, aGet2, isD, dAt,  wipeA, List.set_cons_zero, List.set_cons_succ, asStrs_map, bSub, bAdd, bIAdd, bNeg, bIx, bSl, bInt, bSet, bPop, bInsert, bAppend, bExtend, bML, bEqB, bIsB, bInB, one, bLen, bList, bTuple, bSum, bToInt, bIsi, bRepr, tyA, at0, at1, at2, at3, ixL0, ixL1, ixL2, set0, set1, set2, updA_same, updA_twice, List.append_nil, List.cons_append, List.nil_append, id_eq]
    refine ⟨sz (by simp), fun fd hfd => .keep ?_⟩
    refine seq_i ?_
    simp only [aNext, aAsg, aName, aVar, slot, put, aC, aOp, aUn, aTest, aChain, aAnd, aOr, aNot, aAndV, aOrV, aNotV, aIf, aNil, aCons, aTup, aLst, aCB, aBM, aSl, aPart, aNoPart, aDrop, aRet, aIfS, aPar, aAug, aSub, aUnp, aGNil, aGCons, aCall, aYes, aNilEq, aJoin, wRange1, wAny, wEnum, wEnumD, wKeys, wVals, wItems, lkAt, aLc, aDc, aDc2, aDNew, aRev, aSetd, aGet1, aGet2, isD, dAt,  wipeA, List.set_cons_zero, List.set_cons_succ, asStrs_map, bSub, bAdd, bIAdd, bNeg, bIx, bSl, bInt, bSet, bPop, bInsert, bAppend, bExtend, bML, bEqB, bIsB, bInB, one, bLen, bList, bTuple, bSum, bToInt, bIsi, bRepr, tyA, at0, at1, at2, at3, ixL0, ixL1, ixL2, set0, set1, set2, updA_same, updA_twice, List.append_nil, List.cons_append, List.nil_append, id_eq]
    refine ⟨sz (by simp), fun wt hwt => .keep ?_⟩
    have hwm := (Sub.refl.alloc hfd (o := .lst [])).none hwt
    have ne : fd ≠ wt := fun e => by rw [e] at hfd hwt; rw [updA_same] at hwt; cases hwt
    refine seq_i ?_
    refine while_inv (fun n a' m' => ∃ (F W : List Trm) (x3 : Option AV), a' = [some t.av, some (.ref fd), some (.ref wt), x3] ∧ m' fd = some (.lst (F.map Trm.av)) ∧ m' wt = some (.lst (W.reverse.map Trm.av)) ∧ Ab.Sub m m' ∧ (∀ x ∈ W, x.ok A U) ∧
      F ++ (W.map Trm.tips).flatten = t.tips ∧ n = (W.map Trm.size).sum ∧ F.length + (W.map Trm.size).sum ≤ 200001) ?_ t.size _ _ ⟨[], [t], none, rfl, ?_, updA_same, ?_, ?_, ?_, ?_, ?_⟩
    · rintro n _ m1 ⟨F, W, x3, rfl, e1, e2, sub, okW, eF, rfl, hb⟩ k2 hk
      simp only [aNext, aAsg, aName, aVar, slot, put, aC, aOp, aUn, aTest, aChain, aAnd, aOr, aNot, aAndV, aOrV, aNotV, aIf, aNil, aCons, aTup, aLst, aCB, aBM, aSl, aPart, aNoPart, aDrop, aRet, aIfS, aPar, aAug, aSub, aUnp, aGNil, aGCons, aCall, aYes, aNilEq, aJoin, wRange1, wAny, wEnum, wEnumD, wKeys, wVals, wItems, lkAt, aLc, aDc, aDc2, aDNew, aRev, aSetd, aGet1, aGet2, isD, dAt,  wipeA, List.set_cons_zero, List.set_cons_succ, asStrs_map, bSub, bAdd, bIAdd, bNeg, bIx, bSl, bInt, bSet, bPop, bInsert, bAppend, bExtend, bML, bIsB, one, bLen, bList, bTuple, bSum, bToInt, tyA, at0, at1, at2, at3, ixL0, ixL1, ixL2, set0, set1, set2, updA_same, updA_twice, List.append_nil, List.cons_append, List.nil_append, id_eq, e2]
      cases W with
      | nil =>
        simp only [List.reverse_nil, List.map_nil, List.isEmpty_nil, Bool.not_true, if_neg Bool.false_ne_true]
        refine .keep ?_
        simp only [aNext, aAsg, aName, aVar, slot, put, aC, aOp, aUn, aTest, aChain, aAnd, aOr, aNot, aAndV, aOrV, aNotV, aIf, aNil, aCons, aTup, aLst, aCB, aBM, aSl, aPart, aNoPart, aDrop, aRet, aIfS, aPar, aAug, aSub, aUnp, aGNil, aGCons, aCall, aYes, aNilEq, aJoin, wRange1, wAny, wEnum, wEnumD, wKeys, wVals, wItems, lkAt, aLc, aDc, aDc2, aDNew, aRev, aSetd, aGet1, aGet2, isD, dAt,  wipeA, List.set_cons_zero, List.set_cons_succ, asStrs_map, bSub, bAdd, bIAdd, bNeg, bIx, bSl, bInt, bSet, bPop, bInsert, bAppend, bExtend, bML, bIsB, one, bLen, bList, bTuple, bSum, bToInt, tyA, at0, at1, at2, at3, ixL0, ixL1, ixL2, set0, set1, set2, updA_same, updA_twice, List.append_nil, List.cons_append, List.nil_append, id_eq]
        have eF : F = t.tips := by simpa using eF
        subst eF
        exact Fin.list w sub hfd e1 (k fd hfd)
      | cons x W =>
        have e : ((x :: W).reverse.map Trm.av) = W.reverse.map Trm.av ++ [x.av] := by rw [List.reverse_cons, List.map_append]; rfl
        rw [e] at e2 ⊢
        have e3 : (W.reverse.map Trm.av ++ [x.av]).isEmpty = false := by simp
        rw [e3, if_pos (by rfl)]
        refine seq_i ?_
        simp only [aNext, aAsg, aName, aVar, slot, put, aC, aOp, aUn, aTest, aChain, aAnd, aOr, aNot, aAndV, aOrV, aNotV, aIf, aNil, aCons, aTup, aLst, aCB, aBM, aSl, aPart, aNoPart, aDrop, aRet, aIfS, aPar, aAug, aSub, aUnp, aGNil, aGCons, aCall, aYes, aNilEq, aJoin, wRange1, wAny, wEnum, wEnumD, wKeys, wVals, wItems, lkAt, aLc, aDc, aDc2, aDNew, aRev, aSetd, aGet1, aGet2, isD, dAt,  wipeA, List.set_cons_zero, List.set_cons_succ, asStrs_map, bSub, bAdd, bIAdd, bNeg, bIx, bSl, bInt, bSet, bPop, bInsert, bAppend, bExtend, bML, bIsB, one, bLen, bList, bTuple, bSum, bToInt, tyA, at0, at1, at2, at3, ixL0, ixL1, ixL2, set0, set1, set2, updA_same, updA_twice, List.append_nil, List.cons_append, List.nil_append, id_eq, e2, List.getLast?_concat, List.dropLast_concat]
        refine ⟨⟨_, _, rfl, e2⟩, .keep ?_⟩
        have okx := okW x List.mem_cons_self
        have okW2 : ∀ y ∈ W, y.ok A U := fun y hy => okW y (List.mem_cons_of_mem _ hy)
        have sub2 : Ab.Sub m (updA m1 wt (.lst (W.reverse.map Trm.av))) := fun a o z => by
          rw [updA_ne (fun e => by rw [e, hwm] at z; cases z)]
          exact sub a o z
        have hb1 : F.length + (x.size + (W.map Trm.size).sum) ≤ 200001 := by simpa using hb
        have one : x.tips = [x] → x.size = 1 → k2 [some t.av, some (.ref fd), some (.ref wt), some x.av] (updA (updA m1 wt (.lst (W.reverse.map Trm.av))) fd (.lst (F.map Trm.av ++ [x.av]))) := by
          intro h1 h2
          refine hk (W.map Trm.size).sum _ _ (by simp; omega) (.keep ⟨F ++ [x], W, _, rfl, ?_, ?_, ?_, okW2, ?_, rfl, ?_⟩)
          · rw [updA_same, List.map_append]; rfl
          · rw [updA_ne (Ne.symm ne), updA_same]
          · intro a o z
            rw [updA_ne (fun e => by rw [e, hfd] at z; cases z)]
            exact sub2 a o z
          · rw [← eF, List.map_cons, List.flatten_cons, h1, List.append_assoc]
          · rw [List.length_append, List.length_singleton]; omega
        have e1' : updA m1 wt (.lst (W.reverse.map Trm.av)) fd = some (.lst (F.map Trm.av)) := by rw [updA_ne ne]; exact e1
        have app : x.tips = [x] → x.size = 1 → aDrop (aBM tyL bAppend (aVar 1) (aCons (aVar 3) aNil)) ⟨k2, fun v m' => Fin K q v m', fun a' m' => Fg K m' (aRet (aVar 1) ⟨fun x m' => Fin K q .non m', fun v m' => Fin K q v m', fun _ _ => False, fun _ _ => False⟩ a'), k2⟩ [some t.av, some (.ref fd), some (.ref wt), some x.av] (updA m1 wt (.lst (W.reverse.map Trm.av))) := by
          intro h1 h2
          simp only [aNext, aAsg, aName, aVar, slot, put, aC, aOp, aUn, aTest, aChain, aAnd, aOr, aNot, aAndV, aOrV, aNotV, aIf, aNil, aCons, aTup, aLst, aCB, aBM, aSl, aPart, aNoPart, aDrop, aRet, aIfS, aPar, aAug, aSub, aUnp, aGNil, aGCons, aCall, aYes, aNilEq, aJoin, wRange1, wAny, wEnum, wEnumD, wKeys, wVals, wItems, lkAt, aLc, aDc, aDc2, aDNew, aRev, aSetd, aGet1, aGet2, isD, dAt,  wipeA, List.set_cons_zero, List.set_cons_succ, asStrs_map, bSub, bAdd, bIAdd, bNeg, bIx, bSl, bInt, bSet, bPop, bInsert, bAppend, bExtend, bML, bIsB, one, bLen, bList, bTuple, bSum, bToInt, tyA, at0, at1, at2, at3, ixL0, ixL1, ixL2, set0, set1, set2, updA_same, updA_twice, List.append_nil, List.cons_append, List.nil_append, id_eq, e1', List.length_map]
          exact ⟨⟨_, _, rfl, e1'⟩, sz (by omega), one h1 h2⟩
        have canx := Trm.can okx
        cases x with
        | num i =>
          simp only [aNext, aAsg, aName, aVar, slot, put, aC, aOp, aUn, aTest, aChain, aAnd, aOr, aNot, aAndV, aOrV, aNotV, aIf, aNil, aCons, aTup, aLst, aCB, aBM, aSl, aPart, aNoPart, aDrop, aRet, aIfS, aPar, aAug, aSub, aUnp, aGNil, aGCons, aCall, aYes, aNilEq, aJoin, wRange1, wAny, wEnum, wEnumD, wKeys, wVals, wItems, lkAt, aLc, aDc, aDc2, aDNew, aRev, aSetd, aGet1, aGet2, isD, dAt,  wipeA, List.set_cons_zero, List.set_cons_succ, asStrs_map, bSub, bAdd, bIAdd, bNeg, bIx, bSl, bInt, bSet, bPop, bInsert, bAppend, bExtend, bML, bIsB, one, bLen, bList, bTuple, bSum, bToInt, tyA, at0, at1, at2, at3, ixL0, ixL1, ixL2, set0, set1, set2, updA_same, updA_twice, List.append_nil, List.cons_append, List.nil_append, id_eq, Trm.av, isi_i, Bool.not_false, if_true] at app ⊢
          exact app rfl rfl
        | wd i =>
          simp only [aNext, aAsg, aName, aVar, slot, put, aC, aOp, aUn, aTest, aChain, aAnd, aOr, aNot, aAndV, aOrV, aNotV, aIf, aNil, aCons, aTup, aLst, aCB, aBM, aSl, aPart, aNoPart, aDrop, aRet, aIfS, aPar, aAug, aSub, aUnp, aGNil, aGCons, aCall, aYes, aNilEq, aJoin, wRange1, wAny, wEnum, wEnumD, wKeys, wVals, wItems, lkAt, aLc, aDc, aDc2, aDNew, aRev, aSetd, aGet1, aGet2, isD, dAt,  wipeA, List.set_cons_zero, List.set_cons_succ, asStrs_map, bSub, bAdd, bIAdd, bNeg, bIx, bSl, bInt, bSet, bPop, bInsert, bAppend, bExtend, bML, bIsB, one, bLen, bList, bTuple, bSum, bToInt, tyA, at0, at1, at2, at3, ixL0, ixL1, ixL2, set0, set1, set2, updA_same, updA_twice, List.append_nil, List.cons_append, List.nil_append, id_eq, Trm.av, isi_s, Bool.not_false, if_true] at app ⊢
          exact app rfl rfl
        | nil =>
          simp only [aNext, aAsg, aName, aVar, slot, put, aC, aOp, aUn, aTest, aChain, aAnd, aOr, aNot, aAndV, aOrV, aNotV, aIf, aNil, aCons, aTup, aLst, aCB, aBM, aSl, aPart, aNoPart, aDrop, aRet, aIfS, aPar, aAug, aSub, aUnp, aGNil, aGCons, aCall, aYes, aNilEq, aJoin, wRange1, wAny, wEnum, wEnumD, wKeys, wVals, wItems, lkAt, aLc, aDc, aDc2, aDNew, aRev, aSetd, aGet1, aGet2, isD, dAt,  wipeA, List.set_cons_zero, List.set_cons_succ, asStrs_map, bSub, bAdd, bIAdd, bNeg, bIx, bSl, bInt, bSet, bPop, bInsert, bAppend, bExtend, bML, bIsB, one, bLen, bList, bTuple, bSum, bToInt, tyA, at0, at1, at2, at3, ixL0, ixL1, ixL2, set0, set1, set2, updA_same, updA_twice, List.append_nil, List.cons_append, List.nil_append, id_eq, Trm.av, isi_t, nil_0, Bool.not_true, if_neg Bool.false_ne_true, if_true] at app ⊢
          exact ⟨sz (by simp), app rfl rfl⟩
        | unk n =>
          simp only [Trm.av] at canx
          simp only [aNext, aAsg, aName, aVar, slot, put, aC, aOp, aUn, aTest, aChain, aAnd, aOr, aNot, aAndV, aOrV, aNotV, aIf, aNil, aCons, aTup, aLst, aCB, aBM, aSl, aPart, aNoPart, aDrop, aRet, aIfS, aPar, aAug, aSub, aUnp, aGNil, aGCons, aCall, aYes, aNilEq, aJoin, wRange1, wAny, wEnum, wEnumD, wKeys, wVals, wItems, lkAt, aLc, aDc, aDc2, aDNew, aRev, aSetd, aGet1, aGet2, isD, dAt,  wipeA, List.set_cons_zero, List.set_cons_succ, asStrs_map, bSub, bAdd, bIAdd, bNeg, bIx, bSl, bInt, bSet, bPop, bInsert, bAppend, bExtend, bML, bIsB, one, bLen, bList, bTuple, bSum, bToInt, tyA, at0, at1, at2, at3, ixL0, ixL1, ixL2, set0, set1, set2, updA_same, updA_twice, List.append_nil, List.cons_append, List.nil_append, id_eq, Trm.av, isi_t, nil_t canx, bq_str, decide_true, Bool.not_true, if_neg Bool.false_ne_true, if_true] at app ⊢
          exact ⟨sz (by simp), app rfl rfl⟩
        | pair a b =>
          simp only [Trm.av] at canx
          simp only [aNext, aAsg, aName, aVar, slot, put, aC, aOp, aUn, aTest, aChain, aAnd, aOr, aNot, aAndV, aOrV, aNotV, aIf, aNil, aCons, aTup, aLst, aCB, aBM, aSl, aPart, aNoPart, aDrop, aRet, aIfS, aPar, aAug, aSub, aUnp, aGNil, aGCons, aCall, aYes, aNilEq, aJoin, wRange1, wAny, wEnum, wEnumD, wKeys, wVals, wItems, lkAt, aLc, aDc, aDc2, aDNew, aRev, aSetd, aGet1, aGet2, isD, dAt,  wipeA, List.set_cons_zero, List.set_cons_succ, asStrs_map, bSub, bAdd, bIAdd, bNeg, bIx, bSl, bInt, bSet, bPop, bInsert, bAppend, bExtend, bML, bIsB, one, bLen, bList, bTuple, bSum, bToInt, tyA, at0, at1, at2, at3, ixL0, ixL1, ixL2, set0, set1, set2, updA_same, updA_twice, List.append_nil, List.cons_append, List.nil_append, id_eq, Trm.av, isi_t, nil_t canx, mark_tm okx.1, Bool.not_true, if_neg Bool.false_ne_true]
          refine ⟨sz (by simp), ⟨_, _, rfl, updA_same⟩, sz (by simp), fun p hp => ?_⟩
          rw [updA_keep hp updA_same]
          refine ⟨by simp only [List.length_map, List.length_reverse]; exact sz (by have := Trm.sizes W; simp only [List.length_cons, List.length_nil]; simp only [Trm.size] at hb1; omega), ?_⟩
          simp only [List.map_cons, List.sum_cons, Trm.size] at hk hb
          refine hk (a.size + (b.size + (W.map Trm.size).sum)) _ _ (by omega) (.keep ⟨F, a :: b :: W, _, rfl, ?_, ?_, ?_, ?_, ?_, by simp, by simp; omega⟩)
          · rw [updA_ne ne, updA_keep hp e1']
          · rw [updA_same]
            simp
          · intro a' o z
            rw [updA_ne (fun e => by rw [e, hwm] at z; cases z)]
            exact updA_keep hp (sub2 a' o z)
          · intro y hy
            rcases List.mem_cons.mp hy with rfl | hy
            · exact okx.1
            rcases List.mem_cons.mp hy with rfl | hy
            · exact okx.2
            exact okW2 y hy
          · rw [← eF]
            simp only [List.map_cons, List.flatten_cons, Trm.tips, List.append_assoc]
    · rw [updA_ne ne, updA_same]; rfl
    · exact (Sub.refl.new hfd).new hwm
    · simpa using ok
    · simp
    · simp
    · simp only [List.length_nil, List.map_cons, List.map_nil, List.sum_cons, List.sum_nil, Trm.size_pairs]; omega
  · exact h.elim
end K03

namespace K03
open PySem PySem.Spec PyProof.Rows L2 Ab
variable {K : PySem.W.Frag}
def unkF : AV → Option (Key × AV)
  | .tup [.str _, .int n] => some (.inl n, .bl true)
  | _ => none
theorem unkF_av {t : Trm} (h : t.tip) : unkF t.av = (t.num?).map fun n => (.inl n, .bl true) := by
  cases t <;> first | rfl | exact h.elim
theorem putA_ins (l : List Int) (n : Int) : putA (l.map fun i => ((Sum.inl i : Key), AV.bl true)) (.inl n) (.bl true) = (ins l n).map fun i => ((Sum.inl i : Key), AV.bl true) := by
  unfold putA ins
  have e : ((l.map fun i => ((Sum.inl i : Key), AV.bl true)).any fun kv => decide (kv.1 = Sum.inl n)) = decide (n ∈ l) := by
    rw [List.any_map, Bool.eq_iff_iff, List.any_eq_true, decide_eq_true_iff]
    constructor
    · rintro ⟨x, hx, h⟩
      have : x = n := by simpa using h
      exact this ▸ hx
    · exact fun h => ⟨n, h, by simp⟩
  rw [e]
  by_cases h : n ∈ l
  · rw [if_pos (decide_eq_true h), if_pos h, List.map_map]
    refine List.map_congr_left fun i hi => ?_
    show (if (Sum.inl i : Key) = Sum.inl n then ((Sum.inl i : Key), AV.bl true) else ((Sum.inl i : Key), AV.bl true)) = _
    split <;> rfl
  · rw [if_neg (by simpa using h), if_neg h, List.map_append]
    rfl
theorem fold_unks : ∀ (ts : List Trm) (l : List Int), (∀ x ∈ ts, x.tip) → (ts.map Trm.av).foldl (putFA unkF) (l.map fun i => ((Sum.inl i : Key), AV.bl true)) = ((ts.filterMap Trm.num?).foldl ins l).map fun i => ((Sum.inl i : Key), AV.bl true)
  | [], _, _ => rfl
  | t :: ts, l, h => by
    rw [List.map_cons, List.foldl_cons]
    have e := unkF_av (h t List.mem_cons_self)
    have h2 : ∀ x ∈ ts, x.tip := fun x hx => h x (List.mem_cons_of_mem _ hx)
    unfold putFA
    cases en : t.num? with
    | none =>
      rw [e, en, List.filterMap_cons_none en]
      exact fold_unks ts l h2
    | some n =>
      rw [e, en, List.filterMap_cons_some en, List.foldl_cons]
      show List.foldl (putFA unkF) (putA _ (.inl n) (.bl true)) _ = _
      rw [putA_ins]
      exact fold_unks ts (ins l n) h2
def spUnks : ASp := fun xs m q => match xs with
  | [x] => Own m ∧ ∃ (t : Trm) (A U : Int → Prop), x = t.av ∧ t.ok A U ∧ t.pairs ≤ 100000 ∧ q (.tup (t.unks.map .int)) m
  | _ => False
theorem r_unknowns_in : Reads K n_unknowns_in (t_unknowns_in K spTips) spUnks := by
  intro H xs m q h g
  unfold spUnks at h
  split at h
  · obtain ⟨w, t, A, U, rfl, ok, hp, k⟩ := h
    refine ⟨_, g, ?_⟩
    rw [show startA n_unknowns_in [t.av] = [some t.av, none, none] from rfl]
    unfold t_unknowns_in
    refine seq_i ?_
    simp only [aNext, aAsg, aName, aVar, slot, put, aC, aOp, aUn, aTest, aChain, aAnd, aOr, aNot, aAndV, aOrV, aNotV, aIf, aNil, aCons, aTup, aLst, aCB, aBM, aSl, aPart, aNoPart, aDrop, aRet, aIfS, aPar, aAug, aSub, aUnp, aGNil, aGCons, aCall, aYes, aNilEq, aJoin, wRange1, wAny, wEnum, wEnumD, wKeys, wVals, wItems, lkAt, aLc, aDc, aDc2, aDNew, aRev, aSetd, aGet1, aGet2, isD, dAt,  wipeA, List.set_cons_zero, List.set_cons_succ, asStrs_map, bSub, bAdd, bIAdd, bNeg, bIx, bSl, bInt, bSet, bPop, bInsert, bAppend, bExtend, bML, bIsB, one, bLen, bList, bTuple, bSum, bToInt, tyA, at0, at1, at2, at3, ixL0, ixL1, ixL2, set0, set1, set2, updA_same, updA_twice, List.append_nil, List.cons_append, List.nil_append, id_eq, spTips]
    refine ⟨w, t, A, U, rfl, ok, hp, fun p hp1 => ?_⟩
    intro D hD
    have ne : p ≠ D := fun e => by rw [← e, updA_same] at hD; cases hD
    have hpD : ∀ acc, updA (updA m p (.lst (t.tips.map Trm.av))) D (.dK acc) p = some (.lst (t.tips.map Trm.av)) := fun acc => by rw [updA_ne ne, updA_same]
    have tl := Trm.tips_len t
    refine dc_fn unkF hpD _ [] (fun x hx acc k2 hk => ?_) (by rw [List.length_map]; exact (show _ < 16777216 by simp; omega)) ?_
    · obtain ⟨y, hy, rfl⟩ := List.mem_map.mp hx
      obtain ⟨oy, ty⟩ := Trm.tips_ok ok y hy
      have cany := Trm.can oy
      rw [unkF_av ty] at hk
      cases y with
      | num i => simp only [aNext, aAsg, aName, aVar, slot, put, aC, aOp, aUn, aTest, aChain, aAnd, aOr, aNot, aAndV, aOrV, aNotV, aIf, aNil, aCons, aTup, aLst, aCB, aBM, aSl, aPart, aNoPart, aDrop, aRet, aIfS, aPar, aAug, aSub, aUnp, aGNil, aGCons, aCall, aYes, aNilEq, aJoin, wRange1, wAny, wEnum, wEnumD, wKeys, wVals, wItems, lkAt, aLc, aDc, aDc2, aDNew, aRev, aSetd, aGet1, aGet2, isD, dAt,  wipeA, List.set_cons_zero, List.set_cons_succ, asStrs_map, bSub, bAdd, bIAdd, bNeg, bIx, bSl, bInt, bSet, bPop, bInsert, bAppend, bExtend, bML, bIsB, one, bLen, bList, bTuple, bSum, bToInt, tyA, at0, at1, at2, at3, ixL0, ixL1, ixL2, set0, set1, set2, updA_same, updA_twice, List.append_nil, List.cons_append, List.nil_append, id_eq, Trm.av, isi_i, if_neg Bool.false_ne_true]; exact .keep hk
      | wd i => simp only [aNext, aAsg, aName, aVar, slot, put, aC, aOp, aUn, aTest, aChain, aAnd, aOr, aNot, aAndV, aOrV, aNotV, aIf, aNil, aCons, aTup, aLst, aCB, aBM, aSl, aPart, aNoPart, aDrop, aRet, aIfS, aPar, aAug, aSub, aUnp, aGNil, aGCons, aCall, aYes, aNilEq, aJoin, wRange1, wAny, wEnum, wEnumD, wKeys, wVals, wItems, lkAt, aLc, aDc, aDc2, aDNew, aRev, aSetd, aGet1, aGet2, isD, dAt,  wipeA, List.set_cons_zero, List.set_cons_succ, asStrs_map, bSub, bAdd, bIAdd, bNeg, bIx, bSl, bInt, bSet, bPop, bInsert, bAppend, bExtend, bML, bIsB, one, bLen, bList, bTuple, bSum, bToInt, tyA, at0, at1, at2, at3, ixL0, ixL1, ixL2, set0, set1, set2, updA_same, updA_twice, List.append_nil, List.cons_append, List.nil_append, id_eq, Trm.av, isi_s, if_neg Bool.false_ne_true]; exact .keep hk
      | nil =>
        simp only [aNext, aAsg, aName, aVar, slot, put, aC, aOp, aUn, aTest, aChain, aAnd, aOr, aNot, aAndV, aOrV, aNotV, aIf, aNil, aCons, aTup, aLst, aCB, aBM, aSl, aPart, aNoPart, aDrop, aRet, aIfS, aPar, aAug, aSub, aUnp, aGNil, aGCons, aCall, aYes, aNilEq, aJoin, wRange1, wAny, wEnum, wEnumD, wKeys, wVals, wItems, lkAt, aLc, aDc, aDc2, aDNew, aRev, aSetd, aGet1, aGet2, isD, dAt,  wipeA, List.set_cons_zero, List.set_cons_succ, asStrs_map, bSub, bAdd, bIAdd, bNeg, bIx, bSl, bInt, bSet, bPop, bInsert, bAppend, bExtend, bML, bIsB, one, bLen, bList, bTuple, bSum, bToInt, tyA, at0, at1, at2, at3, ixL0, ixL1, ixL2, set0, set1, set2, updA_same, updA_twice, List.append_nil, List.cons_append, List.nil_append, id_eq, Trm.av, isi_t, nil_0, if_true, Bool.not_true, if_neg Bool.false_ne_true]
        exact ⟨sz (by simp), .keep hk⟩
      | unk n =>
        simp only [Trm.av] at cany
        simp only [aNext, aAsg, aName, aVar, slot, put, aC, aOp, aUn, aTest, aChain, aAnd, aOr, aNot, aAndV, aOrV, aNotV, aIf, aNil, aCons, aTup, aLst, aCB, aBM, aSl, aPart, aNoPart, aDrop, aRet, aIfS, aPar, aAug, aSub, aUnp, aGNil, aGCons, aCall, aYes, aNilEq, aJoin, wRange1, wAny, wEnum, wEnumD, wKeys, wVals, wItems, lkAt, aLc, aDc, aDc2, aDNew, aRev, aSetd, aGet1, aGet2, isD, dAt,  wipeA, List.set_cons_zero, List.set_cons_succ, asStrs_map, bSub, bAdd, bIAdd, bNeg, bIx, bSl, bInt, bSet, bPop, bInsert, bAppend, bExtend, bML, bIsB, one, bLen, bList, bTuple, bSum, bToInt, tyA, at0, at1, at2, at3, ixL0, ixL1, ixL2, set0, set1, set2, updA_same, updA_twice, List.append_nil, List.cons_append, List.nil_append, id_eq, Trm.av, isi_t, nil_t cany, if_true, Bool.not_false]
        exact ⟨sz (by simp), .keep hk⟩
      | pair a b => exact ty.elim
    · have e := fold_unks t.tips [] (fun x hx => (Trm.tips_ok ok x hx).2)
      rw [Trm.tips_nums] at e
      have e : List.foldl (putFA unkF) [] (t.tips.map Trm.av) = t.unks.map fun i => ((Sum.inl i : Key), AV.bl true) := e
      rw [e]
      refine .keep ?_
      simp only [aNext, aAsg, aName, aVar, slot, put, aC, aOp, aUn, aTest, aChain, aAnd, aOr, aNot, aAndV, aOrV, aNotV, aIf, aNil, aCons, aTup, aLst, aCB, aBM, aSl, aPart, aNoPart, aDrop, aRet, aIfS, aPar, aAug, aSub, aUnp, aGNil, aGCons, aCall, aYes, aNilEq, aJoin, wRange1, wAny, wEnum, wEnumD, wKeys, wVals, wItems, lkAt, aLc, aDc, aDc2, aDNew, aRev, aSetd, aGet1, aGet2, isD, dAt,  wipeA, List.set_cons_zero, List.set_cons_succ, asStrs_map, bSub, bAdd, bIAdd, bNeg, bIx, bSl, bInt, bSet, bPop, bInsert, bAppend, bExtend, bML, bIsB, one, bLen, bList, bTuple, bSum, bToInt, tyA, at0, at1, at2, at3, ixL0, ixL1, ixL2, set0, set1, set2, updA_same, updA_twice, List.append_nil, List.cons_append, List.nil_append, id_eq]
      intro p2 hp2
      rw [List.map_map]
      have hp2m := ((Sub.refl.new hp1).alloc hD).none hp2
      exact Fin.pure w (((Sub.refl.new hp1).alloc hD).alloc hp2) k
  · exact h.elim
def spLawUnks (n : Nat) : ASp := fun xs m q => match xs with
  | [x] => Own m ∧ ∃ (t : Trm) (A U : Int → Prop), x = t.av ∧ t.ok A U ∧ t.pairs ≤ 100000 ∧ t.deep ≤ n ∧ ∀ p, m p = none → q (.ref p) (updA m p (.lst (t.unks.map .int)))
  | _ => False
theorem r__law_unknowns (n : Nat) {sp : ASp} (hsp : ∀ xs m q, n ≠ 0 → spLawUnks (n - 1) xs m q → sp xs m q) : Reads K n__law_unknowns (t__law_unknowns K sp) (spLawUnks n) := by
  intro H xs m q h g
  unfold spLawUnks at h
  split at h
  · obtain ⟨w, t, A, U, rfl, ok, hp, hd, k⟩ := h
    refine ⟨_, g, ?_⟩
    rw [show startA n__law_unknowns [t.av] = [some t.av, none, none] from rfl]
    unfold t__law_unknowns
    have cany := Trm.can ok
    have none : t.unks = [] → ∀ p, m p = Option.none → Fin K q (.ref p) (updA m p (.lst [])) := fun e p hp => Fin.same (by have := k p hp; rw [e] at this; exact this)
    refine seq_i ?_
    cases t with
    | num i => simp only [aNext, aAsg, aName, aVar, slot, put, aC, aOp, aUn, aTest, aChain, aAnd, aOr, aNot, aAndV, aOrV, aNotV, aIf, aNil, aCons, aTup, aLst, aCB, aBM, aSl, aPart, aNoPart, aDrop, aRet, aIfS, aPar, aAug, aSub, aUnp, aGNil, aGCons, aCall, aYes, aNilEq, aJoin, wRange1, wAny, wEnum, wEnumD, wKeys, wVals, wItems, lkAt, aLc, aDc, aDc2, aDNew, aRev, aSetd, aGet1, aGet2, isD, dAt,  wipeA, List.set_cons_zero, List.set_cons_succ, asStrs_map, bSub, bAdd, bIAdd, bNeg, bIx, bSl, bInt, bSet, bPop, bInsert, bAppend, bExtend, bML, bIsB, one, bLen, bList, bTuple, bSum, bToInt, tyA, at0, at1, at2, at3, ixL0, ixL1, ixL2, set0, set1, set2, updA_same, updA_twice, List.append_nil, List.cons_append, List.nil_append, id_eq, Trm.av, isi_i, Bool.not_false, if_true]; exact ⟨sz (by simp), fun p hp => none rfl p hp⟩
    | wd i => simp only [aNext, aAsg, aName, aVar, slot, put, aC, aOp, aUn, aTest, aChain, aAnd, aOr, aNot, aAndV, aOrV, aNotV, aIf, aNil, aCons, aTup, aLst, aCB, aBM, aSl, aPart, aNoPart, aDrop, aRet, aIfS, aPar, aAug, aSub, aUnp, aGNil, aGCons, aCall, aYes, aNilEq, aJoin, wRange1, wAny, wEnum, wEnumD, wKeys, wVals, wItems, lkAt, aLc, aDc, aDc2, aDNew, aRev, aSetd, aGet1, aGet2, isD, dAt,  wipeA, List.set_cons_zero, List.set_cons_succ, asStrs_map, bSub, bAdd, bIAdd, bNeg, bIx, bSl, bInt, bSet, bPop, bInsert, bAppend, bExtend, bML, bIsB, one, bLen, bList, bTuple, bSum, bToInt, tyA, at0, at1, at2, at3, ixL0, ixL1, ixL2, set0, set1, set2, updA_same, updA_twice, List.append_nil, List.cons_append, List.nil_append, id_eq, Trm.av, isi_s, Bool.not_false, if_true]; exact ⟨sz (by simp), fun p hp => none rfl p hp⟩
    | nil => simp only [aNext, aAsg, aName, aVar, slot, put, aC, aOp, aUn, aTest, aChain, aAnd, aOr, aNot, aAndV, aOrV, aNotV, aIf, aNil, aCons, aTup, aLst, aCB, aBM, aSl, aPart, aNoPart, aDrop, aRet, aIfS, aPar, aAug, aSub, aUnp, aGNil, aGCons, aCall, aYes, aNilEq, aJoin, wRange1, wAny, wEnum, wEnumD, wKeys, wVals, wItems, lkAt, aLc, aDc, aDc2, aDNew, aRev, aSetd, aGet1, aGet2, isD, dAt,  wipeA, List.set_cons_zero, List.set_cons_succ, asStrs_map, bSub, bAdd, bIAdd, bNeg, bIx, bSl, bInt, bSet, bPop, bInsert, bAppend, bExtend, bML, bIsB, one, bLen, bList, bTuple, bSum, bToInt, tyA, at0, at1, at2, at3, ixL0, ixL1, ixL2, set0, set1, set2, updA_same, updA_twice, List.append_nil, List.cons_append, List.nil_append, id_eq, Trm.av, isi_t, nil_0, Bool.not_true, if_neg Bool.false_ne_true, if_true]; exact ⟨sz (by simp), sz (by simp), fun p hp => none rfl p hp⟩
    | unk n =>
      simp only [Trm.av] at cany
      simp only [aNext, aAsg, aName, aVar, slot, put, aC, aOp, aUn, aTest, aChain, aAnd, aOr, aNot, aAndV, aOrV, aNotV, aIf, aNil, aCons, aTup, aLst, aCB, aBM, aSl, aPart, aNoPart, aDrop, aRet, aIfS, aPar, aAug, aSub, aUnp, aGNil, aGCons, aCall, aYes, aNilEq, aJoin, wRange1, wAny, wEnum, wEnumD, wKeys, wVals, wItems, lkAt, aLc, aDc, aDc2, aDNew, aRev, aSetd, aGet1, aGet2, isD, dAt,  wipeA, List.set_cons_zero, List.set_cons_succ, asStrs_map, bSub, bAdd, bIAdd, bNeg, bIx, bSl, bInt, bSet, bPop, bInsert, bAppend, bExtend, bML, bIsB, one, bLen, bList, bTuple, bSum, bToInt, tyA, at0, at1, at2, at3, ixL0, ixL1, ixL2, set0, set1, set2, updA_same, updA_twice, List.append_nil, List.cons_append, List.nil_append, id_eq, Trm.av, isi_t, nil_t cany, Bool.not_true, if_neg Bool.false_ne_true, if_true]
      refine ⟨sz (by simp), ?_⟩
      refine seq_n ?_
      simp only [aNext, aAsg, aName, aVar, slot, put, aC, aOp, aUn, aTest, aChain, aAnd, aOr, aNot, aAndV, aOrV, aNotV, aIf, aNil, aCons, aTup, aLst, aCB, aBM, aSl, aPart, aNoPart, aDrop, aRet, aIfS, aPar, aAug, aSub, aUnp, aGNil, aGCons, aCall, aYes, aNilEq, aJoin, wRange1, wAny, wEnum, wEnumD, wKeys, wVals, wItems, lkAt, aLc, aDc, aDc2, aDNew, aRev, aSetd, aGet1, aGet2, isD, dAt,  wipeA, List.set_cons_zero, List.set_cons_succ, asStrs_map, bSub, bAdd, bIAdd, bNeg, bIx, bSl, bInt, bSet, bPop, bInsert, bAppend, bExtend, bML, bIsB, one, bLen, bList, bTuple, bSum, bToInt, tyA, at0, at1, at2, at3, ixL0, ixL1, ixL2, set0, set1, set2, updA_same, updA_twice, List.append_nil, List.cons_append, List.nil_append, id_eq, bq_str, decide_true, if_true]
      exact ⟨sz (by simp), fun p hp => Fin.same (k p hp)⟩
    | pair a b =>
      simp only [Trm.av] at cany
      simp only [aNext, aAsg, aName, aVar, slot, put, aC, aOp, aUn, aTest, aChain, aAnd, aOr, aNot, aAndV, aOrV, aNotV, aIf, aNil, aCons, aTup, aLst, aCB, aBM, aSl, aPart, aNoPart, aDrop, aRet, aIfS, aPar, aAug, aSub, aUnp, aGNil, aGCons, aCall, aYes, aNilEq, aJoin, wRange1, wAny, wEnum, wEnumD, wKeys, wVals, wItems, lkAt, aLc, aDc, aDc2, aDNew, aRev, aSetd, aGet1, aGet2, isD, dAt,  wipeA, List.set_cons_zero, List.set_cons_succ, asStrs_map, bSub, bAdd, bIAdd, bNeg, bIx, bSl, bInt, bSet, bPop, bInsert, bAppend, bExtend, bML, bIsB, one, bLen, bList, bTuple, bSum, bToInt, tyA, at0, at1, at2, at3, ixL0, ixL1, ixL2, set0, set1, set2, updA_same, updA_twice, List.append_nil, List.cons_append, List.nil_append, id_eq, Trm.av, isi_t, nil_t cany, Bool.not_true, if_neg Bool.false_ne_true, if_true]
      refine ⟨sz (by simp), ?_⟩
      refine seq_n ?_
      simp only [aNext, aAsg, aName, aVar, slot, put, aC, aOp, aUn, aTest, aChain, aAnd, aOr, aNot, aAndV, aOrV, aNotV, aIf, aNil, aCons, aTup, aLst, aCB, aBM, aSl, aPart, aNoPart, aDrop, aRet, aIfS, aPar, aAug, aSub, aUnp, aGNil, aGCons, aCall, aYes, aNilEq, aJoin, wRange1, wAny, wEnum, wEnumD, wKeys, wVals, wItems, lkAt, aLc, aDc, aDc2, aDNew, aRev, aSetd, aGet1, aGet2, isD, dAt,  wipeA, List.set_cons_zero, List.set_cons_succ, asStrs_map, bSub, bAdd, bIAdd, bNeg, bIx, bSl, bInt, bSet, bPop, bInsert, bAppend, bExtend, bML, bIsB, one, bLen, bList, bTuple, bSum, bToInt, tyA, at0, at1, at2, at3, ixL0, ixL1, ixL2, set0, set1, set2, updA_same, updA_twice, List.append_nil, List.cons_append, List.nil_append, id_eq, mark_tm ok.1, if_neg Bool.false_ne_true]
      refine seq_n ?_
      simp only [Trm.deep, Trm.pairs] at hd hp
      simp only [aNext, aAsg, aName, aVar, slot, put, aC, aOp, aUn, aTest, aChain, aAnd, aOr, aNot, aAndV, aOrV, aNotV, aIf, aNil, aCons, aTup, aLst, aCB, aBM, aSl, aPart, aNoPart, aDrop, aRet, aIfS, aPar, aAug, aSub, aUnp, aGNil, aGCons, aCall, aYes, aNilEq, aJoin, wRange1, wAny, wEnum, wEnumD, wKeys, wVals, wItems, lkAt, aLc, aDc, aDc2, aDNew, aRev, aSetd, aGet1, aGet2, isD, dAt,  wipeA, List.set_cons_zero, List.set_cons_succ, asStrs_map, bSub, bAdd, bIAdd, bNeg, bIx, bSl, bInt, bSet, bPop, bInsert, bAppend, bExtend, bML, bIsB, one, bLen, bList, bTuple, bSum, bToInt, tyA, at0, at1, at2, at3, ixL0, ixL1, ixL2, set0, set1, set2, updA_same, updA_twice, List.append_nil, List.cons_append, List.nil_append, id_eq]
      refine hsp _ _ _ (by omega) ⟨w, a, A, U, rfl, ok.1, by omega, by omega, fun p1 h1 => .keep ?_⟩
      simp only [aNext, aAsg, aName, aVar, slot, put, aC, aOp, aUn, aTest, aChain, aAnd, aOr, aNot, aAndV, aOrV, aNotV, aIf, aNil, aCons, aTup, aLst, aCB, aBM, aSl, aPart, aNoPart, aDrop, aRet, aIfS, aPar, aAug, aSub, aUnp, aGNil, aGCons, aCall, aYes, aNilEq, aJoin, wRange1, wAny, wEnum, wEnumD, wKeys, wVals, wItems, lkAt, aLc, aDc, aDc2, aDNew, aRev, aSetd, aGet1, aGet2, isD, dAt,  wipeA, List.set_cons_zero, List.set_cons_succ, asStrs_map, bSub, bAdd, bIAdd, bNeg, bIx, bSl, bInt, bSet, bPop, bInsert, bAppend, bExtend, bML, bIsB, one, bLen, bList, bTuple, bSum, bToInt, tyA, at0, at1, at2, at3, ixL0, ixL1, ixL2, set0, set1, set2, updA_same, updA_twice, List.append_nil, List.cons_append, List.nil_append, id_eq]
      have w1 : Own (updA m p1 (.lst (a.unks.map .int))) := w.free h1 (fun c e => by cases e)
      refine hsp _ _ _ (by omega) ⟨w1, b, A, U, rfl, ok.2, by omega, by omega, fun p2 h2 => ?_⟩
      simp only [updA_same]
      intro D hD
      have p1D : ∀ o, updA (updA (updA m p1 (.lst (a.unks.map .int))) p2 (.lst (b.unks.map .int))) D o p1 = some (.lst (a.unks.map .int)) := fun o => updA_keep hD (updA_keep h2 updA_same)
      have nl := Trm.nums_len a
      have nl2 := Trm.nums_len b
      have ol : a.unks.length ≤ a.nums.length := once_len _
      have ol2 : b.unks.length ≤ b.nums.length := once_len _
      refine lc_fn0 (keepF fun n => !decide (n ∈ a.unks)) (fun acc => updA_keep hD updA_same) _ (fun x hx acc k2 hk => ?_) (by rw [List.length_map]; exact (show _ < 16777216 by omega)) ?_
      · obtain ⟨n, hn, rfl⟩ := List.mem_map.mp hx
        simp only [aNext, aAsg, aName, aVar, slot, put, aC, aOp, aUn, aTest, aChain, aAnd, aOr, aNot, aAndV, aOrV, aNotV, aIf, aNil, aCons, aTup, aLst, aCB, aBM, aSl, aPart, aNoPart, aDrop, aRet, aIfS, aPar, aAug, aSub, aUnp, aGNil, aGCons, aCall, aYes, aNilEq, aJoin, wRange1, wAny, wEnum, wEnumD, wKeys, wVals, wItems, lkAt, aLc, aDc, aDc2, aDNew, aRev, aSetd, aGet1, aGet2, isD, dAt,  wipeA, List.set_cons_zero, List.set_cons_succ, asStrs_map, bSub, bAdd, bIAdd, bNeg, bIx, bSl, bInt, bSet, bPop, bInsert, bAppend, bExtend, bML, bIsB, one, bLen, bList, bTuple, bSum, bToInt, tyA, at0, at1, at2, at3, ixL0, ixL1, ixL2, set0, set1, set2, updA_same, updA_twice, List.append_nil, List.cons_append, List.nil_append, id_eq, in_ints (p1D _)]
        have hk : k2 (if (!decide (n ∈ a.unks)) = true then some (AV.int n) else Option.none) _ := hk
        by_cases hin : n ∈ a.unks
        · rw [if_neg (by simp [hin])] at hk ⊢
          exact .keep hk
        · rw [if_pos (by simp [hin])] at hk ⊢
          exact .keep hk
      · rw [keepF_map]
        simp only [p1D, updA_same]
        have sub := ((Sub.refl.new h1 (o := .lst (a.unks.map .int))).alloc h2 (o := .lst (b.unks.map .int))).alloc hD (o := .lst ((b.unks.filter fun n => !decide (n ∈ a.unks)).map .int))
        have fl : (b.unks.filter fun n => !decide (n ∈ a.unks)).length ≤ b.unks.length := List.length_filter_le _ _
        refine ⟨by simp only [List.length_map]; exact sz (by omega), fun p3 h3 => Fin.list w (sub.alloc h3) (sub.none h3) updA_same ?_⟩
        have e : (Trm.pair a b).unks = a.unks ++ b.unks.filter fun n => !decide (n ∈ a.unks) := once_append _ _
        have := k p3 (sub.none h3)
        rw [e, List.map_append] at this
        exact this
  · exact h.elim
end K03

namespace K03
open PySem PySem.Spec PyProof.Rows L2 Ab
variable {K : PySem.W.Frag}
def spNumbered (n : Nat) : ASp := fun xs m q => match xs with
  | [x, .ref d] => Own m ∧ ∃ (t : Trm) (A U : Int → Prop) (kvs : List (Key × AV)) (f : Int → Int), x = t.av ∧ t.ok A U ∧ t.deep ≤ n ∧ m d = some (.dK kvs) ∧ (∀ i ∈ t.nums, getK kvs (.inl i) = some (.int (f i))) ∧ q (t.ren f).av m
  | _ => False
theorem r_numbered (n : Nat) {sp : ASp} (hsp : ∀ xs m q, n ≠ 0 → spNumbered (n - 1) xs m q → sp xs m q) : Reads K n_numbered (t_numbered K sp) (spNumbered n) := by
  intro H xs m q h g
  unfold spNumbered at h
  split at h
  · rename_i d
    obtain ⟨w, t, A, U, kvs, f, rfl, ok, hd, em, hf, k⟩ := h
    refine ⟨_, g, ?_⟩
    rw [show startA n_numbered [t.av, .ref d] = [some t.av, some (.ref d), none, none] from rfl]
    unfold t_numbered
    have cany := Trm.can ok
    refine seq_i ?_
    cases t with
    | num i => simp only [aNext, aAsg, aName, aVar, slot, put, aC, aOp, aUn, aTest, aChain, aAnd, aOr, aNot, aAndV, aOrV, aNotV, aIf, aNil, aCons, aTup, aLst, aCB, aBM, aSl, aPart, aNoPart, aDrop, aRet, aIfS, aPar, aAug, aSub, aUnp, aGNil, aGCons, aCall, aYes, aNilEq, aJoin, wRange1, wAny, wEnum, wEnumD, wKeys, wVals, wItems, lkAt, aLc, aDc, aDc2, aDNew, aRev, aSetd, aGet1, aGet2, isD, dAt, Ab.keyOf, wipeA, List.set_cons_zero, List.set_cons_succ, asStrs_map, bSub, bAdd, bIAdd, bNeg, bIx, bSl, bInt, bSet, bPop, bInsert, bAppend, bExtend, bML, bIsB, one, bLen, bList, bTuple, bSum, bToInt, tyA, at0, at1, at2, at3, ixL0, ixL1, ixL2, set0, set1, set2, updA_same, updA_twice, List.append_nil, List.cons_append, List.nil_append, id_eq, Trm.av, isi_i, Bool.not_false, if_true]; exact Fin.same k
    | wd i => simp only [aNext, aAsg, aName, aVar, slot, put, aC, aOp, aUn, aTest, aChain, aAnd, aOr, aNot, aAndV, aOrV, aNotV, aIf, aNil, aCons, aTup, aLst, aCB, aBM, aSl, aPart, aNoPart, aDrop, aRet, aIfS, aPar, aAug, aSub, aUnp, aGNil, aGCons, aCall, aYes, aNilEq, aJoin, wRange1, wAny, wEnum, wEnumD, wKeys, wVals, wItems, lkAt, aLc, aDc, aDc2, aDNew, aRev, aSetd, aGet1, aGet2, isD, dAt, Ab.keyOf, wipeA, List.set_cons_zero, List.set_cons_succ, asStrs_map, bSub, bAdd, bIAdd, bNeg, bIx, bSl, bInt, bSet, bPop, bInsert, bAppend, bExtend, bML, bIsB, one, bLen, bList, bTuple, bSum, bToInt, tyA, at0, at1, at2, at3, ixL0, ixL1, ixL2, set0, set1, set2, updA_same, updA_twice, List.append_nil, List.cons_append, List.nil_append, id_eq, Trm.av, isi_s, Bool.not_false, if_true]; exact Fin.same k
    | nil => simp only [aNext, aAsg, aName, aVar, slot, put, aC, aOp, aUn, aTest, aChain, aAnd, aOr, aNot, aAndV, aOrV, aNotV, aIf, aNil, aCons, aTup, aLst, aCB, aBM, aSl, aPart, aNoPart, aDrop, aRet, aIfS, aPar, aAug, aSub, aUnp, aGNil, aGCons, aCall, aYes, aNilEq, aJoin, wRange1, wAny, wEnum, wEnumD, wKeys, wVals, wItems, lkAt, aLc, aDc, aDc2, aDNew, aRev, aSetd, aGet1, aGet2, isD, dAt, Ab.keyOf, wipeA, List.set_cons_zero, List.set_cons_succ, asStrs_map, bSub, bAdd, bIAdd, bNeg, bIx, bSl, bInt, bSet, bPop, bInsert, bAppend, bExtend, bML, bIsB, one, bLen, bList, bTuple, bSum, bToInt, tyA, at0, at1, at2, at3, ixL0, ixL1, ixL2, set0, set1, set2, updA_same, updA_twice, List.append_nil, List.cons_append, List.nil_append, id_eq, Trm.av, isi_t, nil_0, Bool.not_true, if_neg Bool.false_ne_true, if_true]; exact ⟨sz (by simp), Fin.same k⟩
    | unk i =>
      simp only [Trm.av] at cany
      simp only [aNext, aAsg, aName, aVar, slot, put, aC, aOp, aUn, aTest, aChain, aAnd, aOr, aNot, aAndV, aOrV, aNotV, aIf, aNil, aCons, aTup, aLst, aCB, aBM, aSl, aPart, aNoPart, aDrop, aRet, aIfS, aPar, aAug, aSub, aUnp, aGNil, aGCons, aCall, aYes, aNilEq, aJoin, wRange1, wAny, wEnum, wEnumD, wKeys, wVals, wItems, lkAt, aLc, aDc, aDc2, aDNew, aRev, aSetd, aGet1, aGet2, isD, dAt, Ab.keyOf, wipeA, List.set_cons_zero, List.set_cons_succ, asStrs_map, bSub, bAdd, bIAdd, bNeg, bIx, bSl, bInt, bSet, bPop, bInsert, bAppend, bExtend, bML, bIsB, one, bLen, bList, bTuple, bSum, bToInt, tyA, at0, at1, at2, at3, ixL0, ixL1, ixL2, set0, set1, set2, updA_same, updA_twice, List.append_nil, List.cons_append, List.nil_append, id_eq, Trm.av, isi_t, nil_t cany, Bool.not_true, if_neg Bool.false_ne_true, if_true]
      refine ⟨sz (by simp), ?_⟩
      refine seq_n ?_
      simp only [aNext, aAsg, aName, aVar, slot, put, aC, aOp, aUn, aTest, aChain, aAnd, aOr, aNot, aAndV, aOrV, aNotV, aIf, aNil, aCons, aTup, aLst, aCB, aBM, aSl, aPart, aNoPart, aDrop, aRet, aIfS, aPar, aAug, aSub, aUnp, aGNil, aGCons, aCall, aYes, aNilEq, aJoin, wRange1, wAny, wEnum, wEnumD, wKeys, wVals, wItems, lkAt, aLc, aDc, aDc2, aDNew, aRev, aSetd, aGet1, aGet2, isD, dAt, Ab.keyOf, wipeA, List.set_cons_zero, List.set_cons_succ, asStrs_map, bSub, bAdd, bIAdd, bNeg, bIx, bSl, bInt, bSet, bPop, bInsert, bAppend, bExtend, bML, bIsB, one, bLen, bList, bTuple, bSum, bToInt, tyA, at0, at1, at2, at3, ixL0, ixL1, ixL2, set0, set1, set2, updA_same, updA_twice, List.append_nil, List.cons_append, List.nil_append, id_eq]
      refine ⟨rfl, ?_⟩
      refine seq_n ?_
      have e := hf i (by simp [Trm.nums])
      simp only [aNext, aAsg, aName, aVar, slot, put, aC, aOp, aUn, aTest, aChain, aAnd, aOr, aNot, aAndV, aOrV, aNotV, aIf, aNil, aCons, aTup, aLst, aCB, aBM, aSl, aPart, aNoPart, aDrop, aRet, aIfS, aPar, aAug, aSub, aUnp, aGNil, aGCons, aCall, aYes, aNilEq, aJoin, wRange1, wAny, wEnum, wEnumD, wKeys, wVals, wItems, lkAt, aLc, aDc, aDc2, aDNew, aRev, aSetd, aGet1, aGet2, isD, dAt, Ab.keyOf, wipeA, List.set_cons_zero, List.set_cons_succ, asStrs_map, bSub, bAdd, bIAdd, bNeg, bIx, bSl, bInt, bSet, bPop, bInsert, bAppend, bExtend, bML, bIsB, one, bLen, bList, bTuple, bSum, bToInt, tyA, at0, at1, at2, at3, ixL0, ixL1, ixL2, set0, set1, set2, updA_same, updA_twice, List.append_nil, List.cons_append, List.nil_append, id_eq, bq_str, decide_true, if_true, em, e]
      exact ⟨sz (by simp), Fin.same k⟩
    | pair a b =>
      simp only [Trm.av] at cany
      simp only [aNext, aAsg, aName, aVar, slot, put, aC, aOp, aUn, aTest, aChain, aAnd, aOr, aNot, aAndV, aOrV, aNotV, aIf, aNil, aCons, aTup, aLst, aCB, aBM, aSl, aPart, aNoPart, aDrop, aRet, aIfS, aPar, aAug, aSub, aUnp, aGNil, aGCons, aCall, aYes, aNilEq, aJoin, wRange1, wAny, wEnum, wEnumD, wKeys, wVals, wItems, lkAt, aLc, aDc, aDc2, aDNew, aRev, aSetd, aGet1, aGet2, isD, dAt, Ab.keyOf, wipeA, List.set_cons_zero, List.set_cons_succ, asStrs_map, bSub, bAdd, bIAdd, bNeg, bIx, bSl, bInt, bSet, bPop, bInsert, bAppend, bExtend, bML, bIsB, one, bLen, bList, bTuple, bSum, bToInt, tyA, at0, at1, at2, at3, ixL0, ixL1, ixL2, set0, set1, set2, updA_same, updA_twice, List.append_nil, List.cons_append, List.nil_append, id_eq, Trm.av, isi_t, nil_t cany, Bool.not_true, if_neg Bool.false_ne_true, if_true]
      refine ⟨sz (by simp), ?_⟩
      refine seq_n ?_
      simp only [aNext, aAsg, aName, aVar, slot, put, aC, aOp, aUn, aTest, aChain, aAnd, aOr, aNot, aAndV, aOrV, aNotV, aIf, aNil, aCons, aTup, aLst, aCB, aBM, aSl, aPart, aNoPart, aDrop, aRet, aIfS, aPar, aAug, aSub, aUnp, aGNil, aGCons, aCall, aYes, aNilEq, aJoin, wRange1, wAny, wEnum, wEnumD, wKeys, wVals, wItems, lkAt, aLc, aDc, aDc2, aDNew, aRev, aSetd, aGet1, aGet2, isD, dAt, Ab.keyOf, wipeA, List.set_cons_zero, List.set_cons_succ, asStrs_map, bSub, bAdd, bIAdd, bNeg, bIx, bSl, bInt, bSet, bPop, bInsert, bAppend, bExtend, bML, bIsB, one, bLen, bList, bTuple, bSum, bToInt, tyA, at0, at1, at2, at3, ixL0, ixL1, ixL2, set0, set1, set2, updA_same, updA_twice, List.append_nil, List.cons_append, List.nil_append, id_eq]
      refine ⟨rfl, ?_⟩
      refine seq_n ?_
      simp only [aNext, aAsg, aName, aVar, slot, put, aC, aOp, aUn, aTest, aChain, aAnd, aOr, aNot, aAndV, aOrV, aNotV, aIf, aNil, aCons, aTup, aLst, aCB, aBM, aSl, aPart, aNoPart, aDrop, aRet, aIfS, aPar, aAug, aSub, aUnp, aGNil, aGCons, aCall, aYes, aNilEq, aJoin, wRange1, wAny, wEnum, wEnumD, wKeys, wVals, wItems, lkAt, aLc, aDc, aDc2, aDNew, aRev, aSetd, aGet1, aGet2, isD, dAt, Ab.keyOf, wipeA, List.set_cons_zero, List.set_cons_succ, asStrs_map, bSub, bAdd, bIAdd, bNeg, bIx, bSl, bInt, bSet, bPop, bInsert, bAppend, bExtend, bML, bIsB, one, bLen, bList, bTuple, bSum, bToInt, tyA, at0, at1, at2, at3, ixL0, ixL1, ixL2, set0, set1, set2, updA_same, updA_twice, List.append_nil, List.cons_append, List.nil_append, id_eq, mark_tm ok.1, if_neg Bool.false_ne_true]
      simp only [Trm.deep] at hd
      refine .keep ?_
      simp only [aNext, aAsg, aName, aVar, slot, put, aC, aOp, aUn, aTest, aChain, aAnd, aOr, aNot, aAndV, aOrV, aNotV, aIf, aNil, aCons, aTup, aLst, aCB, aBM, aSl, aPart, aNoPart, aDrop, aRet, aIfS, aPar, aAug, aSub, aUnp, aGNil, aGCons, aCall, aYes, aNilEq, aJoin, wRange1, wAny, wEnum, wEnumD, wKeys, wVals, wItems, lkAt, aLc, aDc, aDc2, aDNew, aRev, aSetd, aGet1, aGet2, isD, dAt, Ab.keyOf, wipeA, List.set_cons_zero, List.set_cons_succ, asStrs_map, bSub, bAdd, bIAdd, bNeg, bIx, bSl, bInt, bSet, bPop, bInsert, bAppend, bExtend, bML, bIsB, one, bLen, bList, bTuple, bSum, bToInt, tyA, at0, at1, at2, at3, ixL0, ixL1, ixL2, set0, set1, set2, updA_same, updA_twice, List.append_nil, List.cons_append, List.nil_append, id_eq]
      refine hsp _ _ _ (by omega) ⟨w, a, A, U, kvs, f, rfl, ok.1, by omega, em, fun i hi => hf i (by simp only [Trm.nums, List.mem_append]; exact .inl hi), ?_⟩
      refine hsp _ _ _ (by omega) ⟨w, b, A, U, kvs, f, rfl, ok.2, by omega, em, fun i hi => hf i (by simp only [Trm.nums, List.mem_append]; exact .inr hi), ?_⟩
      exact ⟨sz (by simp), Fin.same k⟩
  · exact h.elim
theorem r__law_numbered (n : Nat) {sp : ASp} (hsp : ∀ xs m q, n ≠ 0 → spNumbered (n - 1) xs m q → sp xs m q) : Reads K n__law_numbered (t__law_numbered K sp) (spNumbered n) := by
  intro H xs m q h g
  unfold spNumbered at h
  split at h
  · rename_i d
    obtain ⟨w, t, A, U, kvs, f, rfl, ok, hd, em, hf, k⟩ := h
    refine ⟨_, g, ?_⟩
    rw [show startA n__law_numbered [t.av, .ref d] = [some t.av, some (.ref d)] from rfl]
    unfold t__law_numbered
    have cany := Trm.can ok
    refine seq_i ?_
    cases t with
    | num i => simp only [aNext, aAsg, aName, aVar, slot, put, aC, aOp, aUn, aTest, aChain, aAnd, aOr, aNot, aAndV, aOrV, aNotV, aIf, aNil, aCons, aTup, aLst, aCB, aBM, aSl, aPart, aNoPart, aDrop, aRet, aIfS, aPar, aAug, aSub, aUnp, aGNil, aGCons, aCall, aYes, aNilEq, aJoin, wRange1, wAny, wEnum, wEnumD, wKeys, wVals, wItems, lkAt, aLc, aDc, aDc2, aDNew, aRev, aSetd, aGet1, aGet2, isD, dAt, Ab.keyOf, wipeA, List.set_cons_zero, List.set_cons_succ, asStrs_map, bSub, bAdd, bIAdd, bNeg, bIx, bSl, bInt, bSet, bPop, bInsert, bAppend, bExtend, bML, bIsB, one, bLen, bList, bTuple, bSum, bToInt, tyA, at0, at1, at2, at3, ixL0, ixL1, ixL2, set0, set1, set2, updA_same, updA_twice, List.append_nil, List.cons_append, List.nil_append, id_eq, Trm.av, isi_i, Bool.not_false, if_true]; exact Fin.same k
    | wd i => simp only [aNext, aAsg, aName, aVar, slot, put, aC, aOp, aUn, aTest, aChain, aAnd, aOr, aNot, aAndV, aOrV, aNotV, aIf, aNil, aCons, aTup, aLst, aCB, aBM, aSl, aPart, aNoPart, aDrop, aRet, aIfS, aPar, aAug, aSub, aUnp, aGNil, aGCons, aCall, aYes, aNilEq, aJoin, wRange1, wAny, wEnum, wEnumD, wKeys, wVals, wItems, lkAt, aLc, aDc, aDc2, aDNew, aRev, aSetd, aGet1, aGet2, isD, dAt, Ab.keyOf, wipeA, List.set_cons_zero, List.set_cons_succ, asStrs_map, bSub, bAdd, bIAdd, bNeg, bIx, bSl, bInt, bSet, bPop, bInsert, bAppend, bExtend, bML, bIsB, one, bLen, bList, bTuple, bSum, bToInt, tyA, at0, at1, at2, at3, ixL0, ixL1, ixL2, set0, set1, set2, updA_same, updA_twice, List.append_nil, List.cons_append, List.nil_append, id_eq, Trm.av, isi_s, Bool.not_false, if_true]; exact Fin.same k
    | nil => simp only [aNext, aAsg, aName, aVar, slot, put, aC, aOp, aUn, aTest, aChain, aAnd, aOr, aNot, aAndV, aOrV, aNotV, aIf, aNil, aCons, aTup, aLst, aCB, aBM, aSl, aPart, aNoPart, aDrop, aRet, aIfS, aPar, aAug, aSub, aUnp, aGNil, aGCons, aCall, aYes, aNilEq, aJoin, wRange1, wAny, wEnum, wEnumD, wKeys, wVals, wItems, lkAt, aLc, aDc, aDc2, aDNew, aRev, aSetd, aGet1, aGet2, isD, dAt, Ab.keyOf, wipeA, List.set_cons_zero, List.set_cons_succ, asStrs_map, bSub, bAdd, bIAdd, bNeg, bIx, bSl, bInt, bSet, bPop, bInsert, bAppend, bExtend, bML, bIsB, one, bLen, bList, bTuple, bSum, bToInt, tyA, at0, at1, at2, at3, ixL0, ixL1, ixL2, set0, set1, set2, updA_same, updA_twice, List.append_nil, List.cons_append, List.nil_append, id_eq, Trm.av, isi_t, nil_0, Bool.not_true, if_neg Bool.false_ne_true, if_true]; exact ⟨sz (by simp), Fin.same k⟩
    | unk i =>
      simp only [Trm.av] at cany
      simp only [aNext, aAsg, aName, aVar, slot, put, aC, aOp, aUn, aTest, aChain, aAnd, aOr, aNot, aAndV, aOrV, aNotV, aIf, aNil, aCons, aTup, aLst, aCB, aBM, aSl, aPart, aNoPart, aDrop, aRet, aIfS, aPar, aAug, aSub, aUnp, aGNil, aGCons, aCall, aYes, aNilEq, aJoin, wRange1, wAny, wEnum, wEnumD, wKeys, wVals, wItems, lkAt, aLc, aDc, aDc2, aDNew, aRev, aSetd, aGet1, aGet2, isD, dAt, Ab.keyOf, wipeA, List.set_cons_zero, List.set_cons_succ, asStrs_map, bSub, bAdd, bIAdd, bNeg, bIx, bSl, bInt, bSet, bPop, bInsert, bAppend, bExtend, bML, bIsB, one, bLen, bList, bTuple, bSum, bToInt, tyA, at0, at1, at2, at3, ixL0, ixL1, ixL2, set0, set1, set2, updA_same, updA_twice, List.append_nil, List.cons_append, List.nil_append, id_eq, Trm.av, isi_t, nil_t cany, Bool.not_true, if_neg Bool.false_ne_true, if_true]
      refine ⟨sz (by simp), ?_⟩
      refine seq_n ?_
      have e := hf i (by simp [Trm.nums])
      simp only [aNext, aAsg, aName, aVar, slot, put, aC, aOp, aUn, aTest, aChain, aAnd, aOr, aNot, aAndV, aOrV, aNotV, aIf, aNil, aCons, aTup, aLst, aCB, aBM, aSl, aPart, aNoPart, aDrop, aRet, aIfS, aPar, aAug, aSub, aUnp, aGNil, aGCons, aCall, aYes, aNilEq, aJoin, wRange1, wAny, wEnum, wEnumD, wKeys, wVals, wItems, lkAt, aLc, aDc, aDc2, aDNew, aRev, aSetd, aGet1, aGet2, isD, dAt, Ab.keyOf, wipeA, List.set_cons_zero, List.set_cons_succ, asStrs_map, bSub, bAdd, bIAdd, bNeg, bIx, bSl, bInt, bSet, bPop, bInsert, bAppend, bExtend, bML, bIsB, one, bLen, bList, bTuple, bSum, bToInt, tyA, at0, at1, at2, at3, ixL0, ixL1, ixL2, set0, set1, set2, updA_same, updA_twice, List.append_nil, List.cons_append, List.nil_append, id_eq, bq_str, decide_true, if_true, em, e]
      exact ⟨sz (by simp), Fin.same k⟩
    | pair a b =>
      simp only [Trm.av] at cany
      simp only [aNext, aAsg, aName, aVar, slot, put, aC, aOp, aUn, aTest, aChain, aAnd, aOr, aNot, aAndV, aOrV, aNotV, aIf, aNil, aCons, aTup, aLst, aCB, aBM, aSl, aPart, aNoPart, aDrop, aRet, aIfS, aPar, aAug, aSub, aUnp, aGNil, aGCons, aCall, aYes, aNilEq, aJoin, wRange1, wAny, wEnum, wEnumD, wKeys, wVals, wItems, lkAt, aLc, aDc, aDc2, aDNew, aRev, aSetd, aGet1, aGet2, isD, dAt, Ab.keyOf, wipeA, List.set_cons_zero, List.set_cons_succ, asStrs_map, bSub, bAdd, bIAdd, bNeg, bIx, bSl, bInt, bSet, bPop, bInsert, bAppend, bExtend, bML, bIsB, one, bLen, bList, bTuple, bSum, bToInt, tyA, at0, at1, at2, at3, ixL0, ixL1, ixL2, set0, set1, set2, updA_same, updA_twice, List.append_nil, List.cons_append, List.nil_append, id_eq, Trm.av, isi_t, nil_t cany, Bool.not_true, if_neg Bool.false_ne_true, if_true]
      refine ⟨sz (by simp), ?_⟩
      refine seq_n ?_
      simp only [aNext, aAsg, aName, aVar, slot, put, aC, aOp, aUn, aTest, aChain, aAnd, aOr, aNot, aAndV, aOrV, aNotV, aIf, aNil, aCons, aTup, aLst, aCB, aBM, aSl, aPart, aNoPart, aDrop, aRet, aIfS, aPar, aAug, aSub, aUnp, aGNil, aGCons, aCall, aYes, aNilEq, aJoin, wRange1, wAny, wEnum, wEnumD, wKeys, wVals, wItems, lkAt, aLc, aDc, aDc2, aDNew, aRev, aSetd, aGet1, aGet2, isD, dAt, Ab.keyOf, wipeA, List.set_cons_zero, List.set_cons_succ, asStrs_map, bSub, bAdd, bIAdd, bNeg, bIx, bSl, bInt, bSet, bPop, bInsert, bAppend, bExtend, bML, bIsB, one, bLen, bList, bTuple, bSum, bToInt, tyA, at0, at1, at2, at3, ixL0, ixL1, ixL2, set0, set1, set2, updA_same, updA_twice, List.append_nil, List.cons_append, List.nil_append, id_eq, mark_tm ok.1, if_neg Bool.false_ne_true]
      simp only [Trm.deep] at hd
      refine .keep ?_
      simp only [aNext, aAsg, aName, aVar, slot, put, aC, aOp, aUn, aTest, aChain, aAnd, aOr, aNot, aAndV, aOrV, aNotV, aIf, aNil, aCons, aTup, aLst, aCB, aBM, aSl, aPart, aNoPart, aDrop, aRet, aIfS, aPar, aAug, aSub, aUnp, aGNil, aGCons, aCall, aYes, aNilEq, aJoin, wRange1, wAny, wEnum, wEnumD, wKeys, wVals, wItems, lkAt, aLc, aDc, aDc2, aDNew, aRev, aSetd, aGet1, aGet2, isD, dAt, Ab.keyOf, wipeA, List.set_cons_zero, List.set_cons_succ, asStrs_map, bSub, bAdd, bIAdd, bNeg, bIx, bSl, bInt, bSet, bPop, bInsert, bAppend, bExtend, bML, bIsB, one, bLen, bList, bTuple, bSum, bToInt, tyA, at0, at1, at2, at3, ixL0, ixL1, ixL2, set0, set1, set2, updA_same, updA_twice, List.append_nil, List.cons_append, List.nil_append, id_eq]
      refine hsp _ _ _ (by omega) ⟨w, a, A, U, kvs, f, rfl, ok.1, by omega, em, fun i hi => hf i (by simp only [Trm.nums, List.mem_append]; exact .inl hi), ?_⟩
      refine hsp _ _ _ (by omega) ⟨w, b, A, U, kvs, f, rfl, ok.2, by omega, em, fun i hi => hf i (by simp only [Trm.nums, List.mem_append]; exact .inr hi), ?_⟩
      exact ⟨sz (by simp), Fin.same k⟩
  · exact h.elim
def spRen : ASp := fun xs m q => match xs with
  | [x] => Own m ∧ ∃ (ts : List Trm) (A U : Int → Prop), x = .tup (ts.map Trm.av) ∧ (∀ t ∈ ts, t.ok A U) ∧ (∀ t ∈ ts, t.pairs ≤ 1000) ∧ (∀ t ∈ ts, t.deep ≤ 60) ∧ ts.length ≤ 1000 ∧ q (.tup ((renL ts).map Trm.av)) m
  | _ => False
theorem r_renamed : Reads K n_renamed (t_renamed K (spNumbered 60) spUnks) spRen := by
  intro H xs m q h g
  unfold spRen at h
  split at h
  · obtain ⟨w, ts, A, U, rfl, ok, hp, hd, hl, k⟩ := h
    refine ⟨_, g, ?_⟩
    rw [show startA n_renamed [.tup (ts.map Trm.av)] = [some (.tup (ts.map Trm.av)), none, none, none, none, none] from rfl]
    unfold t_renamed
    have nl := numsL_len hp
    refine seq_i ?_
    simp only [aNext, aAsg, aName, aVar, slot, put, aC, aOp, aUn, aTest, aChain, aAnd, aOr, aNot, aAndV, aOrV, aNotV, aIf, aNil, aCons, aTup, aLst, aCB, aBM, aSl, aPart, aNoPart, aDrop, aRet, aIfS, aPar, aAug, aSub, aUnp, aGNil, aGCons, aCall, aYes, aNilEq, aJoin, wRange1, wAny, wEnum, wEnumD, wKeys, wVals, wItems, lkAt, aLc, aDc, aDc2, aDNew, aRev, aSetd, aGet1, aGet2, isD, dAt, Ab.keyOf, wipeA, List.set_cons_zero, List.set_cons_succ, asStrs_map, bSub, bAdd, bIAdd, bNeg, bIx, bSl, bInt, bSet, bPop, bInsert, bAppend, bExtend, bML, bIsB, one, bLen, bList, bTuple, bSum, bToInt, tyA, at0, at1, at2, at3, ixL0, ixL1, ixL2, set0, set1, set2, updA_same, updA_twice, List.append_nil, List.cons_append, List.nil_append, id_eq]
    intro D hD
    refine dc2_fn Trm.av (fun acc t => (t.unks.map AV.int).foldl (putFA intF) acc) (fun acc r => ∃ l, acc = setD l ∧ (∀ t ∈ r, t ∈ ts) ∧ l.length + (numsL r).length ≤ 1001000) (fun _ => trivial) ts [] ?_ ?_ ⟨[], rfl, fun _ h => h, ?_⟩ ?_
    · rintro x r _ ⟨l, rfl, hr, hb⟩
      refine ⟨x.unks.foldl ins l, fold_setD _ _, fun t ht => hr t (List.mem_cons_of_mem _ ht), ?_⟩
      have e : numsL (x :: r) = x.unks ++ numsL r := rfl
      rw [e, List.length_append] at hb
      have : (x.unks.foldl ins l).length ≤ l.length + x.unks.length := by
        rw [once_from]
        have h1 : ((once x.unks).filter fun n => !decide (n ∈ l)).length ≤ (once x.unks).length := List.length_filter_le _ _
        have h2 := once_len x.unks
        rw [List.length_append]
        omega
      omega
    · rintro x r _ ⟨l, rfl, hr, hb⟩ k2 hk
      have hx := hr x List.mem_cons_self
      simp only [aNext, aAsg, aName, aVar, slot, put, aC, aOp, aUn, aTest, aChain, aAnd, aOr, aNot, aAndV, aOrV, aNotV, aIf, aNil, aCons, aTup, aLst, aCB, aBM, aSl, aPart, aNoPart, aDrop, aRet, aIfS, aPar, aAug, aSub, aUnp, aGNil, aGCons, aCall, aYes, aNilEq, aJoin, wRange1, wAny, wEnum, wEnumD, wKeys, wVals, wItems, lkAt, aLc, aDc, aDc2, aDNew, aRev, aSetd, aGet1, aGet2, isD, dAt, Ab.keyOf, wipeA, List.set_cons_zero, List.set_cons_succ, asStrs_map, bSub, bAdd, bIAdd, bNeg, bIx, bSl, bInt, bSet, bPop, bInsert, bAppend, bExtend, bML, bIsB, one, bLen, bList, bTuple, bSum, bToInt, tyA, at0, at1, at2, at3, ixL0, ixL1, ixL2, set0, set1, set2, updA_same, updA_twice, List.append_nil, List.cons_append, List.nil_append, id_eq, spUnks]
      refine ⟨w.free hD (fun c e => by cases e), x, A, U, rfl, ok x hx, by have := hp x hx; omega, ?_⟩
      have e : numsL (x :: r) = x.unks ++ numsL r := rfl
      rw [e, List.length_append] at hb
      refine dc_fn intF (fun _ => trivial) _ _ (fun y hy acc k3 hk3 => ?_) (by unfold setD; rw [List.length_map, List.length_map]; exact (show _ < 16777216 by omega)) (.keep hk)
      obtain ⟨n, hn, rfl⟩ := List.mem_map.mp hy
      simp only [aNext, aAsg, aName, aVar, slot, put, aC, aOp, aUn, aTest, aChain, aAnd, aOr, aNot, aAndV, aOrV, aNotV, aIf, aNil, aCons, aTup, aLst, aCB, aBM, aSl, aPart, aNoPart, aDrop, aRet, aIfS, aPar, aAug, aSub, aUnp, aGNil, aGCons, aCall, aYes, aNilEq, aJoin, wRange1, wAny, wEnum, wEnumD, wKeys, wVals, wItems, lkAt, aLc, aDc, aDc2, aDNew, aRev, aSetd, aGet1, aGet2, isD, dAt, Ab.keyOf, wipeA, List.set_cons_zero, List.set_cons_succ, asStrs_map, bSub, bAdd, bIAdd, bNeg, bIx, bSl, bInt, bSet, bPop, bInsert, bAppend, bExtend, bML, bIsB, one, bLen, bList, bTuple, bSum, bToInt, tyA, at0, at1, at2, at3, ixL0, ixL1, ixL2, set0, set1, set2, updA_same, updA_twice, List.append_nil, List.cons_append, List.nil_append, id_eq]
      exact .keep hk3
    · simp only [List.length_nil]
      have : ts.length * 1001 ≤ 1000 * 1001 := Nat.mul_le_mul_right _ hl
      omega
    · rintro acc' ⟨l, rfl, _, _⟩ e
      have e2 : setD l = setD (unksL ts) := by
        rw [e]
        have main : ∀ (ts : List Trm) (l : List Int), ts.foldl (fun acc t => (t.unks.map AV.int).foldl (putFA intF) acc) (setD l) = setD ((numsL ts).foldl ins l) := by
          intro ts
          induction ts with
          | nil => intro l; rfl
          | cons t ts ih =>
            intro l
            rw [List.foldl_cons, fold_setD, ih]
            have : numsL (t :: ts) = t.unks ++ numsL ts := rfl
            rw [this, List.foldl_append]
        exact main ts []
      rw [e2]
      clear e e2
      have ul : (unksL ts).length ≤ 1001000 := by
        have h1 : (unksL ts).length ≤ (numsL ts).length := once_len _
        have : ts.length * 1001 ≤ 1000 * 1001 := Nat.mul_le_mul_right _ hl
        omega
      refine .keep ?_
      refine seq_i ?_
      simp only [aNext, aAsg, aName, aVar, slot, put, aC, aOp, aUn, aTest, aChain, aAnd, aOr, aNot, aAndV, aOrV, aNotV, aIf, aNil, aCons, aTup, aLst, aCB, aBM, aSl, aPart, aNoPart, aDrop, aRet, aIfS, aPar, aAug, aSub, aUnp, aGNil, aGCons, aCall, aYes, aNilEq, aJoin, wRange1, wAny, wEnum, wEnumD, wKeys, wVals, wItems, lkAt, aLc, aDc, aDc2, aDNew, aRev, aSetd, aGet1, aGet2, isD, dAt, Ab.keyOf, wipeA, List.set_cons_zero, List.set_cons_succ, asStrs_map, bSub, bAdd, bIAdd, bNeg, bIx, bSl, bInt, bSet, bPop, bInsert, bAppend, bExtend, bML, bIsB, one, bLen, bList, bTuple, bSum, bToInt, tyA, at0, at1, at2, at3, ixL0, ixL1, ixL2, set0, set1, set2, updA_same, updA_twice, List.append_nil, List.cons_append, List.nil_append, id_eq]
      refine ⟨D, _, updA_same, ?_⟩
      simp only [aNext, aAsg, aName, aVar, slot, put, aC, aOp, aUn, aTest, aChain, aAnd, aOr, aNot, aAndV, aOrV, aNotV, aIf, aNil, aCons, aTup, aLst, aCB, aBM, aSl, aPart, aNoPart, aDrop, aRet, aIfS, aPar, aAug, aSub, aUnp, aGNil, aGCons, aCall, aYes, aNilEq, aJoin, wRange1, wAny, wEnum, wEnumD, wKeys, wVals, wItems, lkAt, aLc, aDc, aDc2, aDNew, aRev, aSetd, aGet1, aGet2, isD, dAt, Ab.keyOf, wipeA, List.set_cons_zero, List.set_cons_succ, asStrs_map, bSub, bAdd, bIAdd, bNeg, bIx, bSl, bInt, bSet, bPop, bInsert, bAppend, bExtend, bML, bIsB, one, bLen, bList, bTuple, bSum, bToInt, tyA, at0, at1, at2, at3, ixL0, ixL1, ixL2, set0, set1, set2, updA_same, updA_twice, List.append_nil, List.cons_append, List.nil_append, id_eq]
      rw [setD_keys]
      intro E hE
      have hE2 : m E = none := by
        exact (Sub.refl.new hD).none hE
      have ne : D ≠ E := fun e => by rw [e, updA_same] at hE; cases hE
      refine dc_fn enF (fun _ => trivial) _ [] (fun y hy acc k3 hk3 => ?_) (by rw [enumA_len, List.length_map, List.length_nil]; exact (show _ < 16777216 by omega)) ?_
      · have hy2 : ∃ i n : Int, y = .tup [.int i, .int n] := by
          obtain ⟨j, hj⟩ := List.getElem?_of_mem hy
          rw [enumA_get, List.getElem?_map] at hj
          cases e3 : (unksL ts)[j]? with
          | none => rw [e3] at hj; cases hj
          | some n => rw [e3] at hj; cases hj; exact ⟨_, _, rfl⟩
        obtain ⟨i, n, rfl⟩ := hy2
        simp only [aNext, aAsg, aName, aVar, slot, put, aC, aOp, aUn, aTest, aChain, aAnd, aOr, aNot, aAndV, aOrV, aNotV, aIf, aNil, aCons, aTup, aLst, aCB, aBM, aSl, aPart, aNoPart, aDrop, aRet, aIfS, aPar, aAug, aSub, aUnp, aGNil, aGCons, aCall, aYes, aNilEq, aJoin, wRange1, wAny, wEnum, wEnumD, wKeys, wVals, wItems, lkAt, aLc, aDc, aDc2, aDNew, aRev, aSetd, aGet1, aGet2, isD, dAt, Ab.keyOf, wipeA, List.set_cons_zero, List.set_cons_succ, asStrs_map, bSub, bAdd, bIAdd, bNeg, bIx, bSl, bInt, bSet, bPop, bInsert, bAppend, bExtend, bML, bIsB, one, bLen, bList, bTuple, bSum, bToInt, tyA, at0, at1, at2, at3, ixL0, ixL1, ixL2, set0, set1, set2, updA_same, updA_twice, List.append_nil, List.cons_append, List.nil_append, id_eq]
        exact ⟨rfl, .keep hk3⟩
      · have e3 := fold_enum (unksL ts) [] (once_nodup _)
        have e3 : List.foldl (putFA enF) [] (enumA 0 ((unksL ts).map AV.int)) = numK 0 (unksL ts) := e3
        rw [e3]
        refine ⟨by rw [updA_ne ne, updA_same], ?_⟩
        have sub : Ab.Sub m (updA (updA (updA m D (.lkd (setD (unksL ts)))) E (.dK (numK 0 (unksL ts)))) D (.dK (setD (unksL ts)))) := by
          intro a o z
          have n1 : a ≠ D := fun e => by rw [e, hD] at z; cases z
          have n2 : a ≠ E := fun e => by rw [e, hE2] at z; cases z
          rw [updA_ne n1, updA_ne n2, updA_ne n1]
          exact z
        have eE : (updA (updA (updA m D (.lkd (setD (unksL ts)))) E (.dK (numK 0 (unksL ts)))) D (.dK (setD (unksL ts)))) E = some (.dK (numK 0 (unksL ts))) := by
          rw [updA_ne (Ne.symm ne), updA_same]
        generalize updA (updA (updA m D (.lkd (setD (unksL ts)))) E (.dK (numK 0 (unksL ts)))) D (.dK (setD (unksL ts))) = m2 at sub eE ⊢
        have w2 : Own (updA m E (.dK (numK 0 (unksL ts)))) := w.free hE2 (fun c e => by cases e)
        have sub2 : Ab.Sub (updA m E (.dK (numK 0 (unksL ts)))) m2 := by
          intro a o z
          by_cases ha : a = E
          · subst ha
            rw [updA_same] at z
            cases z
            exact eE
          · rw [updA_ne ha] at z
            exact sub a o z
        refine .drop w2 sub2 ?_
        simp only [aNext, aAsg, aName, aVar, slot, put, aC, aOp, aUn, aTest, aChain, aAnd, aOr, aNot, aAndV, aOrV, aNotV, aIf, aNil, aCons, aTup, aLst, aCB, aBM, aSl, aPart, aNoPart, aDrop, aRet, aIfS, aPar, aAug, aSub, aUnp, aGNil, aGCons, aCall, aYes, aNilEq, aJoin, wRange1, wAny, wEnum, wEnumD, wKeys, wVals, wItems, lkAt, aLc, aDc, aDc2, aDNew, aRev, aSetd, aGet1, aGet2, isD, dAt, Ab.keyOf, wipeA, List.set_cons_zero, List.set_cons_succ, asStrs_map, bSub, bAdd, bIAdd, bNeg, bIx, bSl, bInt, bSet, bPop, bInsert, bAppend, bExtend, bML, bIsB, one, bLen, bList, bTuple, bSum, bToInt, tyA, at0, at1, at2, at3, ixL0, ixL1, ixL2, set0, set1, set2, updA_same, updA_twice, List.append_nil, List.cons_append, List.nil_append, id_eq]
        intro L hL
        have eE2 : ∀ acc, updA (updA m E (.dK (numK 0 (unksL ts)))) L (.lst acc) E = some (.dK (numK 0 (unksL ts))) := fun acc => updA_keep hL updA_same
        refine lc_mapT Trm.av (fun t => (t.ren (idx (unksL ts))).av) (fun _ => trivial) ts (fun t ht acc k3 hk3 => ?_) (show _ < 16777216 by omega) ?_
        · simp only [aNext, aAsg, aName, aVar, slot, put, aC, aOp, aUn, aTest, aChain, aAnd, aOr, aNot, aAndV, aOrV, aNotV, aIf, aNil, aCons, aTup, aLst, aCB, aBM, aSl, aPart, aNoPart, aDrop, aRet, aIfS, aPar, aAug, aSub, aUnp, aGNil, aGCons, aCall, aYes, aNilEq, aJoin, wRange1, wAny, wEnum, wEnumD, wKeys, wVals, wItems, lkAt, aLc, aDc, aDc2, aDNew, aRev, aSetd, aGet1, aGet2, isD, dAt, Ab.keyOf, wipeA, List.set_cons_zero, List.set_cons_succ, asStrs_map, bSub, bAdd, bIAdd, bNeg, bIx, bSl, bInt, bSet, bPop, bInsert, bAppend, bExtend, bML, bIsB, one, bLen, bList, bTuple, bSum, bToInt, tyA, at0, at1, at2, at3, ixL0, ixL1, ixL2, set0, set1, set2, updA_same, updA_twice, List.append_nil, List.cons_append, List.nil_append, id_eq, spNumbered]
          refine ⟨w2.free hL (fun c e => by cases e), t, A, U, _, idx (unksL ts), rfl, ok t ht, hd t ht, eE2 acc, fun i hi => ?_, .keep hk3⟩
          have := numK_get 0 (unksL ts) i (unksL_mem.mpr ⟨t, ht, hi⟩)
          rw [this]
          simp
        · simp only [updA_same]
          have e4 : ts.map (fun t => (t.ren (idx (unksL ts))).av) = (renL ts).map Trm.av := by
            unfold renL
            rw [List.map_map]
            rfl
          rw [e4]
          exact Fin.pure w ((Sub.refl.new hE2).alloc hL) k
  · exact h.elim
theorem r__law_due : Reads K n__law_due (t__law_due K (spNumbered 60) (spLawUnks 60)) spRen := by
  intro H xs m q h g
  unfold spRen at h
  split at h
  · obtain ⟨w, ts, A, U, rfl, ok, hp, hd, hl, k⟩ := h
    refine ⟨_, g, ?_⟩
    rw [show startA n__law_due [.tup (ts.map Trm.av)] = [some (.tup (ts.map Trm.av)), none, none, none] from rfl]
    unfold t__law_due
    have nl := numsL_len hp
    have nb : (numsL ts).length ≤ 1001000 := by
      have : ts.length * 1001 ≤ 1000 * 1001 := Nat.mul_le_mul_right _ hl
      omega
    refine seq_i ?_
    simp only [aNext, aAsg, aName, aVar, slot, put, aC, aOp, aUn, aTest, aChain, aAnd, aOr, aNot, aAndV, aOrV, aNotV, aIf, aNil, aCons, aTup, aLst, aCB, aBM, aSl, aPart, aNoPart, aDrop, aRet, aIfS, aPar, aAug, aSub, aUnp, aGNil, aGCons, aCall, aYes, aNilEq, aJoin, wRange1, wAny, wEnum, wEnumD, wKeys, wVals, wItems, lkAt, aLc, aDc, aDc2, aDNew, aRev, aSetd, aGet1, aGet2, isD, dAt, Ab.keyOf, wipeA, List.set_cons_zero, List.set_cons_succ, asStrs_map, bSub, bAdd, bIAdd, bNeg, bIx, bSl, bInt, bSet, bPop, bInsert, bAppend, bExtend, bML, bIsB, one, bLen, bList, bTuple, bSum, bToInt, tyA, at0, at1, at2, at3, ixL0, ixL1, ixL2, set0, set1, set2, updA_same, updA_twice, List.append_nil, List.cons_append, List.nil_append, id_eq]
    intro D hD
    refine .keep ?_
    have wD : ∀ kvs, Own (updA m D (.dK kvs)) := fun kvs => w.free hD (fun c e => by cases e)
    refine seq_i ?_
    simp only [aFor, aNext, aAsg, aName, aVar, slot, put, aC, aOp, aUn, aTest, aChain, aAnd, aOr, aNot, aAndV, aOrV, aNotV, aIf, aNil, aCons, aTup, aLst, aCB, aBM, aSl, aPart, aNoPart, aDrop, aRet, aIfS, aPar, aAug, aSub, aUnp, aGNil, aGCons, aCall, aYes, aNilEq, aJoin, wRange1, wAny, wEnum, wEnumD, wKeys, wVals, wItems, lkAt, aLc, aDc, aDc2, aDNew, aRev, aSetd, aGet1, aGet2, isD, dAt, Ab.keyOf, wipeA, List.set_cons_zero, List.set_cons_succ, asStrs_map, bSub, bAdd, bIAdd, bNeg, bIx, bSl, bInt, bSet, bPop, bInsert, bAppend, bExtend, bML, bIsB, one, bLen, bList, bTuple, bSum, bToInt, tyA, at0, at1, at2, at3, ixL0, ixL1, ixL2, set0, set1, set2, updA_same, updA_twice, List.append_nil, List.cons_append, List.nil_append, id_eq]
    refine for_inv (fun xs' a' m' => ∃ (r : List Trm) (l : List Int) (x2 x3 : Option AV), a' = [some (.tup (ts.map Trm.av)), some (.ref D), x2, x3] ∧ m' = updA m D (.dK (numK 0 l)) ∧ xs' = r.map Trm.av ∧ (∀ t ∈ r, t ∈ ts) ∧ (numsL r).foldl ins l = unksL ts ∧ l.length + (numsL r).length ≤ 1001000) ?_ ?_ _ _ _ ⟨ts, [], none, none, rfl, rfl, rfl, fun _ h => h, rfl, by simpa using nb⟩
    · rintro x rr _ _ ⟨r, l, x2, x3, rfl, rfl, er, hr, el, hb⟩
      cases r with
      | nil => cases er
      | cons t r =>
        rw [List.map_cons, List.cons.injEq] at er
        obtain ⟨rfl, rfl⟩ := er
        have ht := hr t List.mem_cons_self
        have e : numsL (t :: r) = t.unks ++ numsL r := rfl
        rw [e, List.length_append] at hb
        rw [e, List.foldl_append] at el
        refine ⟨trivial, fun nx hnx => ?_⟩
        simp only [aFor, aNext, aAsg, aName, aVar, slot, put, aC, aOp, aUn, aTest, aChain, aAnd, aOr, aNot, aAndV, aOrV, aNotV, aIf, aNil, aCons, aTup, aLst, aCB, aBM, aSl, aPart, aNoPart, aDrop, aRet, aIfS, aPar, aAug, aSub, aUnp, aGNil, aGCons, aCall, aYes, aNilEq, aJoin, wRange1, wAny, wEnum, wEnumD, wKeys, wVals, wItems, lkAt, aLc, aDc, aDc2, aDNew, aRev, aSetd, aGet1, aGet2, isD, dAt, Ab.keyOf, wipeA, List.set_cons_zero, List.set_cons_succ, asStrs_map, bSub, bAdd, bIAdd, bNeg, bIx, bSl, bInt, bSet, bPop, bInsert, bAppend, bExtend, bML, bIsB, one, bLen, bList, bTuple, bSum, bToInt, tyA, at0, at1, at2, at3, ixL0, ixL1, ixL2, set0, set1, set2, updA_same, updA_twice, List.append_nil, List.cons_append, List.nil_append, id_eq, spLawUnks]
        refine ⟨wD _, t, A, U, rfl, ok t ht, by have := hp t ht; omega, hd t ht, fun p hp1 => ?_⟩
        have nep : D ≠ p := fun e => by rw [← e, updA_same] at hp1; cases hp1
        have hpm : m p = none := by rw [updA_ne (Ne.symm nep)] at hp1; exact hp1
        refine for_inv (fun ys' a' m' => ∃ (ys : List Int) (l2 : List Int) (x3 : Option AV), a' = [some (.tup (ts.map Trm.av)), some (.ref D), some t.av, x3] ∧ m' = updA (updA m D (.dK (numK 0 l2))) p (.lst (t.unks.map AV.int)) ∧ ys' = ys.map AV.int ∧ ys.foldl ins l2 = t.unks.foldl ins l ∧ l2.length + ys.length ≤ l.length + t.unks.length) ?_ ?_ _ _ _ ⟨t.unks, l, x3, rfl, rfl, rfl, rfl, Nat.le_refl _⟩
        · rintro y ry _ _ ⟨ys, l2, x3, rfl, rfl, ey, el2, hb2⟩
          cases ys with
          | nil => cases ey
          | cons n ys =>
            rw [List.map_cons, List.cons.injEq] at ey
            obtain ⟨rfl, rfl⟩ := ey
            rw [List.length_cons] at hb2
            rw [List.foldl_cons] at el2
            refine ⟨updA_same, fun nx2 hnx2 => ?_⟩
            have eD : updA (updA m D (.dK (numK 0 l2))) p (.lst (t.unks.map AV.int)) D = some (.dK (numK 0 l2)) := by rw [updA_ne nep, updA_same]
            simp only [aNext, aAsg, aName, aVar, slot, put, aC, aOp, aUn, aTest, aChain, aAnd, aOr, aNot, aAndV, aOrV, aNotV, aIf, aNil, aCons, aTup, aLst, aCB, aBM, aSl, aPart, aNoPart, aDrop, aRet, aIfS, aPar, aAug, aSub, aUnp, aGNil, aGCons, aCall, aYes, aNilEq, aJoin, wRange1, wAny, wEnum, wEnumD, wKeys, wVals, wItems, lkAt, aLc, aDc, aDc2, aDNew, aRev, aSetd, aGet1, aGet2, isD, dAt, Ab.keyOf, wipeA, List.set_cons_zero, List.set_cons_succ, asStrs_map, bSub, bAdd, bIAdd, bNeg, bIx, bSl, bInt, bSet, bPop, bInsert, bAppend, bExtend, bML, bIsB, one, bLen, bList, bTuple, bSum, bToInt, tyA, at0, at1, at2, at3, ixL0, ixL1, ixL2, set0, set1, set2, updA_same, updA_twice, List.append_nil, List.cons_append, List.nil_append, id_eq, eD, Option.isSome_some, true_and]
            refine ⟨by rw [numK_len]; exact (show _ < 16777216 by omega), ?_⟩
            by_cases hn : n ∈ l2
            · rw [numK_get 0 l2 n hn]
              refine hnx2 _ _ (.keep ⟨ys, l2, _, rfl, rfl, rfl, ?_, by omega⟩)
              rw [← el2]
              unfold ins
              rw [if_pos hn]
            · rw [numK_none 0 l2 n hn]
              have e5 := numK_put (k := 0) hn
              rw [Nat.zero_add] at e5
              simp only [numK_len, e5]
              refine hnx2 _ _ (.keep ⟨ys, l2 ++ [n], _, rfl, ?_, rfl, ?_, ?_⟩)
              · rw [updA_swap nep, updA_twice]
              · rw [← el2]
                unfold ins
                rw [if_neg hn]
              · rw [List.length_append, List.length_singleton]; omega
        · rintro _ _ ⟨ys, l2, x3, rfl, rfl, ey, el2, hb2⟩
          cases ys with
          | cons n ys => cases ey
          | nil =>
            refine ⟨updA_same, ?_⟩
            have el2 : l2 = t.unks.foldl ins l := el2
            refine hnx _ _ (Fg.drop1 (wD _) (by rw [updA_ne (Ne.symm nep)]; exact hpm) ⟨r, l2, _, _, rfl, rfl, rfl, fun y hy => hr y (List.mem_cons_of_mem _ hy), by rw [el2]; exact el, by simp only [List.length_nil] at hb2; omega⟩)
    · rintro _ _ ⟨r, l, x2, x3, rfl, rfl, er, hr, el, hb⟩
      cases r with
      | cons t r => cases er
      | nil =>
        refine ⟨trivial, .keep ?_⟩
        have el : l = unksL ts := el
        subst el
        simp only [aNext, aAsg, aName, aVar, slot, put, aC, aOp, aUn, aTest, aChain, aAnd, aOr, aNot, aAndV, aOrV, aNotV, aIf, aNil, aCons, aTup, aLst, aCB, aBM, aSl, aPart, aNoPart, aDrop, aRet, aIfS, aPar, aAug, aSub, aUnp, aGNil, aGCons, aCall, aYes, aNilEq, aJoin, wRange1, wAny, wEnum, wEnumD, wKeys, wVals, wItems, lkAt, aLc, aDc, aDc2, aDNew, aRev, aSetd, aGet1, aGet2, isD, dAt, Ab.keyOf, wipeA, List.set_cons_zero, List.set_cons_succ, asStrs_map, bSub, bAdd, bIAdd, bNeg, bIx, bSl, bInt, bSet, bPop, bInsert, bAppend, bExtend, bML, bIsB, one, bLen, bList, bTuple, bSum, bToInt, tyA, at0, at1, at2, at3, ixL0, ixL1, ixL2, set0, set1, set2, updA_same, updA_twice, List.append_nil, List.cons_append, List.nil_append, id_eq]
        intro L hL
        have eE2 : ∀ acc, updA (updA m D (.dK (numK 0 (unksL ts)))) L (.lst acc) D = some (.dK (numK 0 (unksL ts))) := fun acc => updA_keep hL updA_same
        refine lc_mapT Trm.av (fun t => (t.ren (idx (unksL ts))).av) (fun _ => trivial) ts (fun t ht acc k3 hk3 => ?_) (show _ < 16777216 by omega) ?_
        · simp only [aNext, aAsg, aName, aVar, slot, put, aC, aOp, aUn, aTest, aChain, aAnd, aOr, aNot, aAndV, aOrV, aNotV, aIf, aNil, aCons, aTup, aLst, aCB, aBM, aSl, aPart, aNoPart, aDrop, aRet, aIfS, aPar, aAug, aSub, aUnp, aGNil, aGCons, aCall, aYes, aNilEq, aJoin, wRange1, wAny, wEnum, wEnumD, wKeys, wVals, wItems, lkAt, aLc, aDc, aDc2, aDNew, aRev, aSetd, aGet1, aGet2, isD, dAt, Ab.keyOf, wipeA, List.set_cons_zero, List.set_cons_succ, asStrs_map, bSub, bAdd, bIAdd, bNeg, bIx, bSl, bInt, bSet, bPop, bInsert, bAppend, bExtend, bML, bIsB, one, bLen, bList, bTuple, bSum, bToInt, tyA, at0, at1, at2, at3, ixL0, ixL1, ixL2, set0, set1, set2, updA_same, updA_twice, List.append_nil, List.cons_append, List.nil_append, id_eq, spNumbered]
          refine ⟨(wD _).free hL (fun c e => by cases e), t, A, U, _, idx (unksL ts), rfl, ok t ht, hd t ht, eE2 acc, fun i hi => ?_, .keep hk3⟩
          have := numK_get 0 (unksL ts) i (unksL_mem.mpr ⟨t, ht, hi⟩)
          rw [this]
          simp
        · simp only [updA_same]
          have e4 : ts.map (fun t => (t.ren (idx (unksL ts))).av) = (renL ts).map Trm.av := by
            unfold renL
            rw [List.map_map]
            rfl
          rw [e4]
          exact Fin.pure w ((Sub.refl.new hD).alloc hL) k
  · exact h.elim
end K03

namespace K03
open PySem PySem.Spec PyProof.Rows L2 Ab
variable {K : PySem.W.Frag}
theorem own_deck {m : AHp} {d c : Addr} (w : Own m) (ed : m d = none) (ec : m c = none) (ne : d ≠ c) : Own (updA (updA m c (.hid d)) d (.deck c)) := by
  intro a b q
  by_cases ha : a = d
  · subst ha
    rw [updA_same] at q
    cases q
    rw [updA_ne (Ne.symm ne), updA_same]
  · rw [updA_ne ha] at q
    by_cases hc : a = c
    · subst hc
      rw [updA_same] at q
      cases q
    · rw [updA_ne hc] at q
      have q2 := w a b q
      have n1 : b ≠ d := fun z => by rw [z, ed] at q2; cases q2
      have n2 : b ≠ c := fun z => by rw [z, ec] at q2; cases q2
      rw [updA_ne n1, updA_ne n2]
      exact q2
structure Row (U : Int → Prop) (ts : List Trm) : Prop where
  ok : ∀ t ∈ ts, t.ok Far U
  deep : ∀ t ∈ ts, t.deep ≤ 30
  pairs : ∀ t ∈ ts, t.pairs ≤ 58
  len : ts.length ≤ 12
theorem Row.ren {U U' : Int → Prop} {ts : List Trm} {f : Int → Int} (h : Row U ts) (hf : ∀ n ∈ unksL ts, U' (f n)) : Row U' (ts.map (Trm.ren f)) := by
  refine ⟨fun t ht => ?_, fun t ht => ?_, fun t ht => ?_, by rw [List.length_map]; exact h.len⟩
  all_goals obtain ⟨u, hu, rfl⟩ := List.mem_map.mp ht
  · exact Trm.ren_ok (h.ok u hu) fun n hn => hf n (unksL_mem.mpr ⟨u, hu, hn⟩)
  · rw [Trm.ren_deep]; exact h.deep u hu
  · rw [Trm.ren_pairs]; exact h.pairs u hu
theorem Row.renL {U : Int → Prop} {ts : List Trm} (h : Row U ts) : Row Small (Ab.renL ts) := by
  refine h.ren fun n hn => ?_
  have h1 := idx_lt hn
  have h2 : (unksL ts).length ≤ (numsL ts).length := once_len _
  have h3 := numsL_len h.pairs
  have h4 : ts.length * (58 + 1) ≤ 12 * 59 := Nat.mul_le_mul_right _ h.len
  unfold Small
  have : (idx (unksL ts) n).natAbs ≤ 1000 := by omega
  exact Nat.lt_of_le_of_lt this (by decide +kernel)
theorem Row.rev {U : Int → Prop} {ts : List Trm} (h : Row U ts) : Row U ts.reverse :=
  ⟨fun t ht => h.ok t (List.mem_reverse.mp ht), fun t ht => h.deep t (List.mem_reverse.mp ht), fun t ht => h.pairs t (List.mem_reverse.mp ht), by rw [List.length_reverse]; exact h.len⟩
theorem Row.sp {U : Int → Prop} {ts : List Trm} {m : AHp} {q : AK} (h : Row U ts) (w : Own m) (k : q (.tup ((Ab.renL ts).map Trm.av)) m) : spRen [.tup (ts.map Trm.av)] m q :=
  ⟨w, ts, _, _, rfl, h.ok, fun t ht => by have := h.pairs t ht; omega, fun t ht => by have := h.deep t ht; omega, by have := h.len; omega, k⟩
theorem Row.fine {ts : List Trm} (h : Row Small ts) : Ab.fine (.tup (ts.map Trm.av)) = true := terms_fine (fun _ => Far.small) (fun _ h => h) h.ok
theorem Row.depth {U : Int → Prop} {ts : List Trm} (h : Row U ts) : (toD (.tup (ts.map Trm.av))).depth ≤ 31 := terms_depth h.deep
theorem Row.weight {ts : List Trm} (h : Row Small ts) : (toD (.tup (ts.map Trm.av))).weight ≤ 390000 := by
  have h1 := terms_weight (fun _ => Far.small) (fun _ h => h) h.ok h.pairs
  have h2 : ts.length * (280 * 58 + 141) ≤ 12 * (280 * 58 + 141) := Nat.mul_le_mul_right _ h.len
  omega
def vals : List Int := [100, 5, 41, 0, 998, 6]
theorem vals_at {i : Int} (h0 : 0 ≤ i) (h1 : i < 6) : atI (vals.map AV.int) i = some (.int (vals.getD i.toNat 0)) := by
  have : i = 0 ∨ i = 1 ∨ i = 2 ∨ i = 3 ∨ i = 4 ∨ i = 5 := by omega
  rcases this with rfl | rfl | rfl | rfl | rfl | rfl <;> rfl
theorem vals_inj : ∀ i < 6, ∀ j < 6, vals.getD i 0 = vals.getD j 0 → i = j := by decide
theorem vals_small : ∀ i < 6, 0 ≤ vals.getD i 0 ∧ vals.getD i 0 < 1000 := by decide
theorem getK_put (kvs : List (Key × AV)) (k k' : Key) (v : AV) : getK (putA kvs k v) k' = if k = k' then some v else getK kvs k' := by
  unfold putA
  by_cases h : (kvs.any fun kv => decide (kv.1 = k)) = true
  · rw [if_pos h]
    unfold getK
    induction kvs with
    | nil => simp at h
    | cons p kvs ih =>
      rw [List.map_cons]
      by_cases hp : p.1 = k
      · rw [if_pos hp]
        by_cases hk : k = k'
        · rw [if_pos hk, List.find?_cons_of_pos (by simp [hp, hk])]
          rfl
        · rw [if_neg hk, List.find?_cons_of_neg (by simp [hp, hk]), List.find?_cons_of_neg (by simp [hp, hk])]
          by_cases hr : (kvs.any fun kv => decide (kv.1 = k)) = true
          · have := ih hr
            rwa [if_neg hk] at this
          · congr 2
            have : ∀ kv ∈ kvs, (if kv.1 = k then (kv.1, v) else kv) = kv := fun kv hkv => if_neg fun e => hr (List.any_eq_true.mpr ⟨kv, hkv, by simp [e]⟩)
            rw [List.map_congr_left this, List.map_id']
      · rw [if_neg hp]
        have hr : (kvs.any fun kv => decide (kv.1 = k)) = true := by
          rw [List.any_cons] at h
          simpa [hp] using h
        by_cases hpk : p.1 = k'
        · rw [List.find?_cons_of_pos (by simp [hpk]), List.find?_cons_of_pos (by simp [hpk]), if_neg fun e => hp (hpk.trans e.symm)]
        · rw [List.find?_cons_of_neg (by simp [hpk]), List.find?_cons_of_neg (by simp [hpk])]
          exact ih hr
  · rw [if_neg h]
    unfold getK
    rw [List.find?_append]
    by_cases hk : k = k'
    · subst hk
      have : kvs.find? (fun kv => decide (kv.1 = k)) = none := List.find?_eq_none.mpr fun kv hkv e => h (List.any_eq_true.mpr ⟨kv, hkv, e⟩)
      rw [this, if_pos rfl]
      simp
    · rw [if_neg hk]
      simp [hk]
theorem r_law : Reads K n_law (t_law K spAny spDeck spDraw spRen spNames (spNumbered 60) spRen) spEnd := by
  intro H xs m q h g
  unfold spEnd at h
  split at h
  · rename_i ns
    obtain ⟨w, k⟩ := h
    refine ⟨_, g, ?_⟩
    rw [show startA n_law [.scr ns] = [some (.scr ns), none, none, none, none, none, none, none, none, none, none, none, none, none] from rfl]
    unfold t_law
    refine seq_i ?_
    simp only [aNext, aAsg, aName, aVar, slot, put, aC, aOp, aUn, aTest, aChain, aAnd, aOr, aNot, aAndV, aOrV, aNotV, aIf, aNil, aCons, aTup, aLst, aCB, aBM, aSl, aPart, aNoPart, aDrop, aRet, aIfS, aPar, aAug, aSub, aUnp, aGNil, aGCons, aCall, aYes, aNilEq, aJoin, wRange1, wAny, wEnum, wEnumD, wKeys, wVals, wItems, lkAt, aLc, aDc, aDc2, aDNew, aRev, aSetd, aGet1, aGet2, isD, dAt, Ab.keyOf, wipeA, List.set_cons_zero, List.set_cons_succ, asStrs_map, bSub, bAdd, bIAdd, bNeg, bIx, bSl, bInt, bSet, bPop, bInsert, bAppend, bExtend, bML, bIsB, one, bLen, bList, bTuple, bSum, bToInt, tyA, at0, at1, at2, at3, ixL0, ixL1, ixL2, set0, set1, set2, updA_same, updA_twice, List.append_nil, List.cons_append, List.nil_append, id_eq, spDeck]
    refine ⟨w, fun d c hd hc ne => .keep ?_⟩
    have w1 := own_deck w hd hc ne
    have d1 : updA (updA m c (.hid d)) d (.deck c) d = some (.deck c) := updA_same
    generalize updA (updA m c (.hid d)) d (.deck c) = m1 at w1 d1 ⊢
    refine seq_i ?_
    simp only [aNext, aAsg, aName, aVar, slot, put, aC, aOp, aUn, aTest, aChain, aAnd, aOr, aNot, aAndV, aOrV, aNotV, aIf, aNil, aCons, aTup, aLst, aCB, aBM, aSl, aPart, aNoPart, aDrop, aRet, aIfS, aPar, aAug, aSub, aUnp, aGNil, aGCons, aCall, aYes, aNilEq, aJoin, wRange1, wAny, wEnum, wEnumD, wKeys, wVals, wItems, lkAt, aLc, aDc, aDc2, aDNew, aRev, aSetd, aGet1, aGet2, isD, dAt, Ab.keyOf, wipeA, List.set_cons_zero, List.set_cons_succ, asStrs_map, bSub, bAdd, bIAdd, bNeg, bIx, bSl, bInt, bSet, bPop, bInsert, bAppend, bExtend, bML, bIsB, one, bLen, bList, bTuple, bSum, bToInt, tyA, at0, at1, at2, at3, ixL0, ixL1, ixL2, set0, set1, set2, updA_same, updA_twice, List.append_nil, List.cons_append, List.nil_append, id_eq, spNames]
    refine ⟨w1, ⟨c, d1⟩, by decide, by decide, fun W hl oW ws hws => .keep ?_⟩
    have w2 : Own (updA m1 ws (.lst (W.map .str))) := w1.free hws (fun c e => by cases e)
    have d2 : updA m1 ws (.lst (W.map .str)) d = some (.deck c) := updA_keep hws d1
    have s2 : updA m1 ws (.lst (W.map .str)) ws = some (.lst (W.map .str)) := updA_same
    generalize updA m1 ws (.lst (W.map .str)) = M at w2 d2 s2 ⊢
    have hl : W.length = 3 := by omega
    refine seq_i ?_
    simp only [aFor, aNext, aAsg, aName, aVar, slot, put, aC, aOp, aUn, aTest, aChain, aAnd, aOr, aNot, aAndV, aOrV, aNotV, aIf, aNil, aCons, aTup, aLst, aCB, aBM, aSl, aPart, aNoPart, aDrop, aRet, aIfS, aPar, aAug, aSub, aUnp, aGNil, aGCons, aCall, aYes, aNilEq, aJoin, wRange1, wAny, wEnum, wEnumD, wKeys, wVals, wItems, lkAt, aLc, aDc, aDc2, aDNew, aRev, aSetd, aGet1, aGet2, isD, dAt, Ab.keyOf, wipeA, List.set_cons_zero, List.set_cons_succ, asStrs_map, bSub, bAdd, bIAdd, bNeg, bIx, bSl, bInt, bSet, bPop, bInsert, bAppend, bExtend, bML, bIsB, one, bLen, bList, bTuple, bSum, bToInt, tyA, at0, at1, at2, at3, ixL0, ixL1, ixL2, set0, set1, set2, updA_same, updA_twice, List.append_nil, List.cons_append, List.nil_append, id_eq]
    refine ⟨by decide, by decide, ?_⟩
    refine for_inv (fun xs' a' m' => M = m' ∧ (∀ x ∈ xs', ∃ i : Nat, x = .int i ∧ i < 6) ∧ ∃ x3 x4 x5 x6 x7 x8 x9 x10 x11 x12, a' = [some (.scr ns), some (.ref d), some (.ref ws), x3, x4, x5, x6, x7, x8, x9, x10, x11, x12, none]) ?_ ?_ _ _ _ ⟨rfl, fun x hx => ?_, none, none, none, none, none, none, none, none, none, none, rfl⟩
    · rintro x rr _ _ ⟨rfl, hx, x3, x4, x5, x6, x7, x8, x9, x10, x11, x12, rfl⟩
      obtain ⟨turn, rfl, ht6⟩ := hx x List.mem_cons_self
      refine ⟨trivial, fun nx hnx => ?_⟩
      simp only [aNext, aAsg, aName, aVar, slot, put, aC, aOp, aUn, aTest, aChain, aAnd, aOr, aNot, aAndV, aOrV, aNotV, aIf, aNil, aCons, aTup, aLst, aCB, aBM, aSl, aPart, aNoPart, aDrop, aRet, aIfS, aPar, aAug, aSub, aUnp, aGNil, aGCons, aCall, aYes, aNilEq, aJoin, wRange1, wAny, wEnum, wEnumD, wKeys, wVals, wItems, lkAt, aLc, aDc, aDc2, aDNew, aRev, aSetd, aGet1, aGet2, isD, dAt, Ab.keyOf, wipeA, List.set_cons_zero, List.set_cons_succ, asStrs_map, bSub, bAdd, bIAdd, bNeg, bIx, bSl, bInt, bSet, bPop, bInsert, bAppend, bExtend, bML, bIsB, one, bLen, bList, bTuple, bSum, bToInt, tyA, at0, at1, at2, at3, ixL0, ixL1, ixL2, set0, set1, set2, updA_same, updA_twice, List.append_nil, List.cons_append, List.nil_append, id_eq]
      refine seq_i ?_
      simp only [aNext, aAsg, aName, aVar, slot, put, aC, aOp, aUn, aTest, aChain, aAnd, aOr, aNot, aAndV, aOrV, aNotV, aIf, aNil, aCons, aTup, aLst, aCB, aBM, aSl, aPart, aNoPart, aDrop, aRet, aIfS, aPar, aAug, aSub, aUnp, aGNil, aGCons, aCall, aYes, aNilEq, aJoin, wRange1, wAny, wEnum, wEnumD, wKeys, wVals, wItems, lkAt, aLc, aDc, aDc2, aDNew, aRev, aSetd, aGet1, aGet2, isD, dAt, Ab.keyOf, wipeA, List.set_cons_zero, List.set_cons_succ, asStrs_map, bSub, bAdd, bIAdd, bNeg, bIx, bSl, bInt, bSet, bPop, bInsert, bAppend, bExtend, bML, bIsB, one, bLen, bList, bTuple, bSum, bToInt, tyA, at0, at1, at2, at3, ixL0, ixL1, ixL2, set0, set1, set2, updA_same, updA_twice, List.append_nil, List.cons_append, List.nil_append, id_eq, spDraw]
      refine ⟨⟨c, d2⟩, by decide, by decide, fun r r0 r1 => ?_⟩
      simp only [bq_int]
      refine seq_n ?_
      simp only [aNext, aAsg, aName, aVar, slot, put, aC, aOp, aUn, aTest, aChain, aAnd, aOr, aNot, aAndV, aOrV, aNotV, aIf, aNil, aCons, aTup, aLst, aCB, aBM, aSl, aPart, aNoPart, aDrop, aRet, aIfS, aPar, aAug, aSub, aUnp, aGNil, aGCons, aCall, aYes, aNilEq, aJoin, wRange1, wAny, wEnum, wEnumD, wKeys, wVals, wItems, lkAt, aLc, aDc, aDc2, aDNew, aRev, aSetd, aGet1, aGet2, isD, dAt, Ab.keyOf, wipeA, List.set_cons_zero, List.set_cons_succ, asStrs_map, bSub, bAdd, bIAdd, bNeg, bIx, bSl, bInt, bSet, bPop, bInsert, bAppend, bExtend, bML, bIsB, one, bLen, bList, bTuple, bSum, bToInt, tyA, at0, at1, at2, at3, ixL0, ixL1, ixL2, set0, set1, set2, updA_same, updA_twice, List.append_nil, List.cons_append, List.nil_append, id_eq, spDraw]
      refine ⟨sz (by simp), fun p1 h1 => ⟨sz (by simp), fun p2 h2 => ⟨sz (by simp), fun p3 h3 => ⟨sz (by simp), fun p4 h4 => ⟨⟨c, updA_keep h4 (updA_keep h3 (updA_keep h2 (updA_keep h1 d2)))⟩, by decide, by decide, fun r' r0' r1' => ?_⟩⟩⟩⟩⟩
      have no : ∀ xs c, AO.lst xs ≠ .deck c := fun _ _ e => by cases e
      have w5 := (((w2.free h1 (no [.int 2, .int 1, .int 0])).free h2 (no [.int 3, .int 0, .int 99, .int 10, .int 999, .int 100])).free h3 (no [.int 7])).free h4 (no [.ref p1, .ref p2, .ref p3])
      have sub5 := (((Sub.refl.new h1 (o := .lst [.int 2, .int 1, .int 0])).alloc h2 (o := .lst [.int 3, .int 0, .int 99, .int 10, .int 999, .int 100])).alloc h3 (o := .lst [.int 7])).alloc h4 (o := .lst [.ref p1, .ref p2, .ref p3])
      have pick : ∃ (us : Addr) (U : List Int), atI [AV.ref p1, AV.ref p2, AV.ref p3] r' = some (.ref us) ∧ updA (updA (updA (updA M p1 (.lst [.int 2, .int 1, .int 0])) p2 (.lst [.int 3, .int 0, .int 99, .int 10, .int 999, .int 100])) p3 (.lst [.int 7])) p4 (.lst [.ref p1, .ref p2, .ref p3]) us = some (.lst (U.map .int)) ∧ U.length ≤ 6 ∧ U.Nodup ∧ ∀ n ∈ U, 0 ≤ n ∧ n < 1000 := by
        have : r' = 0 ∨ r' = 1 ∨ r' = 2 := by omega
        rcases this with rfl | rfl | rfl
        · exact ⟨p1, [2, 1, 0], at0, updA_keep h4 (updA_keep h3 (updA_keep h2 updA_same)), by decide, by decide, by decide⟩
        · exact ⟨p2, [3, 0, 99, 10, 999, 100], at1, updA_keep h4 (updA_keep h3 updA_same), by decide, by decide, by decide⟩
        · exact ⟨p3, [7], at2, updA_keep h4 updA_same, by decide, by decide, by decide⟩
      obtain ⟨us, U, e, u5, ul, und, ub⟩ := pick
      simp only [e]
      have d5 := sub5 _ _ d2
      have s5 := sub5 _ _ s2
      clear h1 h2 h3 h4 e
      generalize updA (updA (updA (updA M p1 _) p2 _) p3 _) p4 _ = M5 at w5 sub5 u5 d5 s5 ⊢
      refine seq_n ?_
      simp only [aNext, aAsg, aName, aVar, slot, put, aC, aOp, aUn, aTest, aChain, aAnd, aOr, aNot, aAndV, aOrV, aNotV, aIf, aNil, aCons, aTup, aLst, aCB, aBM, aSl, aPart, aNoPart, aDrop, aRet, aIfS, aPar, aAug, aSub, aUnp, aGNil, aGCons, aCall, aYes, aNilEq, aJoin, wRange1, wAny, wEnum, wEnumD, wKeys, wVals, wItems, lkAt, aLc, aDc, aDc2, aDNew, aRev, aSetd, aGet1, aGet2, isD, dAt, Ab.keyOf, wipeA, List.set_cons_zero, List.set_cons_succ, asStrs_map, bSub, bAdd, bIAdd, bNeg, bIx, bSl, bInt, bSet, bPop, bInsert, bAppend, bExtend, bML, bIsB, one, bLen, bList, bTuple, bSum, bToInt, tyA, at0, at1, at2, at3, ixL0, ixL1, ixL2, set0, set1, set2, updA_same, updA_twice, List.append_nil, List.cons_append, List.nil_append, id_eq, spDraw]
      refine ⟨⟨c, d5⟩, by decide, by decide, fun z z0 z1 => ⟨sz (by simp), fun p6 h6 => ?_⟩⟩
      have hm : ∃ v : Int, atI [AV.int z, AV.int 12] (if decide (r = 5) = true then 1 else 0) = some (.int v) ∧ 0 ≤ v ∧ v ≤ 12 := by
        by_cases h5 : r = 5
        · rw [if_pos (by simpa using h5)]
          exact ⟨12, at1, by decide, by decide⟩
        · rw [if_neg (by simpa using h5)]
          exact ⟨z, at0, by omega, by omega⟩
      obtain ⟨many, em, m0, m12⟩ := hm
      simp only [em]
      refine Fg.drop1 w5 h6 ?_
      refine seq_i ?_
      simp only [aNext, aAsg, aName, aVar, slot, put, aC, aOp, aUn, aTest, aChain, aAnd, aOr, aNot, aAndV, aOrV, aNotV, aIf, aNil, aCons, aTup, aLst, aCB, aBM, aSl, aPart, aNoPart, aDrop, aRet, aIfS, aPar, aAug, aSub, aUnp, aGNil, aGCons, aCall, aYes, aNilEq, aJoin, wRange1, wAny, wEnum, wEnumD, wKeys, wVals, wItems, lkAt, aLc, aDc, aDc2, aDNew, aRev, aSetd, aGet1, aGet2, isD, dAt, Ab.keyOf, wipeA, List.set_cons_zero, List.set_cons_succ, asStrs_map, bSub, bAdd, bIAdd, bNeg, bIx, bSl, bInt, bSet, bPop, bInsert, bAppend, bExtend, bML, bIsB, one, bLen, bList, bTuple, bSum, bToInt, tyA, at0, at1, at2, at3, ixL0, ixL1, ixL2, set0, set1, set2, updA_same, updA_twice, List.append_nil, List.cons_append, List.nil_append, id_eq]
      refine ⟨by omega, by omega, fun D hD => ?_⟩
      have hne : W ≠ [] := by
        rintro rfl
        cases hl
      have usm : ∀ n, n ∈ U → Small n := fun n hn => by
        have := ub n hn
        unfold Small
        exact Nat.lt_of_le_of_lt (show n.natAbs ≤ 1000 by omega) (by decide +kernel)
      refine lc_map0 Trm.av (fun t => t.ok Far (· ∈ U) ∧ t.deep ≤ 30 ∧ t.pairs ≤ 58) (fun _ => trivial) _ (fun x hx acc k2 hk => ?_) (by rw [upto_len]; exact (show _ < 16777216 by omega)) (fun ts tl hts => ?_)
      · simp only [aNext, aAsg, aName, aVar, slot, put, aC, aOp, aUn, aTest, aChain, aAnd, aOr, aNot, aAndV, aOrV, aNotV, aIf, aNil, aCons, aTup, aLst, aCB, aBM, aSl, aPart, aNoPart, aDrop, aRet, aIfS, aPar, aAug, aSub, aUnp, aGNil, aGCons, aCall, aYes, aNilEq, aJoin, wRange1, wAny, wEnum, wEnumD, wKeys, wVals, wItems, lkAt, aLc, aDc, aDc2, aDNew, aRev, aSetd, aGet1, aGet2, isD, dAt, Ab.keyOf, wipeA, List.set_cons_zero, List.set_cons_succ, asStrs_map, bSub, bAdd, bIAdd, bNeg, bIx, bSl, bInt, bSet, bPop, bInsert, bAppend, bExtend, bML, bIsB, one, bLen, bList, bTuple, bSum, bToInt, tyA, at0, at1, at2, at3, ixL0, ixL1, ixL2, set0, set1, set2, updA_same, updA_twice, List.append_nil, List.cons_append, List.nil_append, id_eq, spAny]
        refine ⟨w5.free hD (no _), ⟨c, updA_keep hD d5⟩, W, U, ⟨updA_keep hD s5, updA_keep hD u5, hne, oW, by omega, by omega⟩, fun t ot dt pt => .keep (hk t ⟨ot, dt, pt⟩)⟩
      simp only [updA_same]
      refine Fg.drop1 w5 hD ?_
      rw [upto_len] at tl
      have R : Row (· ∈ U) ts := ⟨fun t ht => (hts t ht).1, fun t ht => (hts t ht).2.1, fun t ht => (hts t ht).2.2, by omega⟩
      have R1 := R.renL
      have R2 := R.rev.renL
      refine seq_i ?_
      simp only [aNext, aAsg, aName, aVar, slot, put, aC, aOp, aUn, aTest, aChain, aAnd, aOr, aNot, aAndV, aOrV, aNotV, aIf, aNil, aCons, aTup, aLst, aCB, aBM, aSl, aPart, aNoPart, aDrop, aRet, aIfS, aPar, aAug, aSub, aUnp, aGNil, aGCons, aCall, aYes, aNilEq, aJoin, wRange1, wAny, wEnum, wEnumD, wKeys, wVals, wItems, lkAt, aLc, aDc, aDc2, aDNew, aRev, aSetd, aGet1, aGet2, isD, dAt, Ab.keyOf, wipeA, List.set_cons_zero, List.set_cons_succ, asStrs_map, bSub, bAdd, bIAdd, bNeg, bIx, bSl, bInt, bSet, bPop, bInsert, bAppend, bExtend, bML, bIsB, one, bLen, bList, bTuple, bSum, bToInt, tyA, at0, at1, at2, at3, ixL0, ixL1, ixL2, set0, set1, set2, updA_same, updA_twice, List.append_nil, List.cons_append, List.nil_append, id_eq]
      refine R.sp w5 (.keep ?_)
      refine seq_i ?_
      simp only [aNext, aAsg, aName, aVar, slot, put, aC, aOp, aUn, aTest, aChain, aAnd, aOr, aNot, aAndV, aOrV, aNotV, aIf, aNil, aCons, aTup, aLst, aCB, aBM, aSl, aPart, aNoPart, aDrop, aRet, aIfS, aPar, aAug, aSub, aUnp, aGNil, aGCons, aCall, aYes, aNilEq, aJoin, wRange1, wAny, wEnum, wEnumD, wKeys, wVals, wItems, lkAt, aLc, aDc, aDc2, aDNew, aRev, aSetd, aGet1, aGet2, isD, dAt, Ab.keyOf, wipeA, List.set_cons_zero, List.set_cons_succ, asStrs_map, bSub, bAdd, bIAdd, bNeg, bIx, bSl, bInt, bSet, bPop, bInsert, bAppend, bExtend, bML, bIsB, one, bLen, bList, bTuple, bSum, bToInt, tyA, at0, at1, at2, at3, ixL0, ixL1, ixL2, set0, set1, set2, updA_same, updA_twice, List.append_nil, List.cons_append, List.nil_append, id_eq]
      refine R.sp w5 ?_
      simp only [repr_fine R1.fine (Nat.le_trans R1.depth (by decide)) R1.weight, bq_str, decide_true, Bool.not_true, if_neg Bool.false_ne_true]
      refine R1.sp w5 ?_
      rw [renL_renL]
      simp only [bq_same R1.fine (Nat.le_trans R1.depth (by decide)), Bool.not_true, if_neg Bool.false_ne_true]
      refine .keep ?_
      refine seq_i ?_
      simp only [aNext, aAsg, aName, aVar, slot, put, aC, aOp, aUn, aTest, aChain, aAnd, aOr, aNot, aAndV, aOrV, aNotV, aIf, aNil, aCons, aTup, aLst, aCB, aBM, aSl, aPart, aNoPart, aDrop, aRet, aIfS, aPar, aAug, aSub, aUnp, aGNil, aGCons, aCall, aYes, aNilEq, aJoin, wRange1, wAny, wEnum, wEnumD, wKeys, wVals, wItems, lkAt, aLc, aDc, aDc2, aDNew, aRev, aSetd, aGet1, aGet2, isD, dAt, Ab.keyOf, wipeA, List.set_cons_zero, List.set_cons_succ, asStrs_map, bSub, bAdd, bIAdd, bNeg, bIx, bSl, bInt, bSet, bPop, bInsert, bAppend, bExtend, bML, bIsB, one, bLen, bList, bTuple, bSum, bToInt, tyA, at0, at1, at2, at3, ixL0, ixL1, ixL2, set0, set1, set2, updA_same, updA_twice, List.append_nil, List.cons_append, List.nil_append, id_eq]
      intro N hN
      refine .keep ?_
      have nN : us ≠ N := fun e => by rw [← e, u5] at hN; cases hN
      have wN : ∀ kvs, Own (updA M5 N (.dK kvs)) := fun kvs => w5.free hN (fun c e => by cases e)
      have uN : ∀ kvs, updA M5 N (.dK kvs) us = some (.lst (U.map .int)) := fun kvs => updA_keep hN u5
      refine seq_i ?_
      simp only [aFor, aNext, aAsg, aName, aVar, slot, put, aC, aOp, aUn, aTest, aChain, aAnd, aOr, aNot, aAndV, aOrV, aNotV, aIf, aNil, aCons, aTup, aLst, aCB, aBM, aSl, aPart, aNoPart, aDrop, aRet, aIfS, aPar, aAug, aSub, aUnp, aGNil, aGCons, aCall, aYes, aNilEq, aJoin, wRange1, wAny, wEnum, wEnumD, wKeys, wVals, wItems, lkAt, aLc, aDc, aDc2, aDNew, aRev, aSetd, aGet1, aGet2, isD, dAt, Ab.keyOf, wipeA, List.set_cons_zero, List.set_cons_succ, asStrs_map, bSub, bAdd, bIAdd, bNeg, bIx, bSl, bInt, bSet, bPop, bInsert, bAppend, bExtend, bML, bIsB, one, bLen, bList, bTuple, bSum, bToInt, tyA, at0, at1, at2, at3, ixL0, ixL1, ixL2, set0, set1, set2, updA_same, updA_twice, List.append_nil, List.cons_append, List.nil_append, id_eq, uN]
      refine for_inv (fun xs' a' m' => ∃ (kvs : List (Key × AV)) (j : Nat) (y10 y11 : Option AV), a' = [some (.scr ns), some (.ref d), some (.ref ws), some (.int turn), some (.bl (decide (r = 5))), some (.ref us), some (.int many), some (.tup (ts.map Trm.av)), some (.tup ((Ab.renL ts).map Trm.av)), some (.ref N), y10, y11, x12, none] ∧
        m' = updA M5 N (.dK kvs) ∧ kvs.length ≤ j ∧ xs' = (enumA 0 (U.map AV.int)).drop j ∧ j ≤ U.length ∧ ∀ n ∈ U, U.idxOf n < j → getK kvs (.inl n) = some (.int (vals.getD ((idx U n + turn) % 6).toNat 0))) ?_ ?_ _ _ _ ⟨[], 0, _, _, rfl, rfl, Nat.zero_le _, rfl, Nat.zero_le _, fun n _ h => absurd h (Nat.not_lt_zero _)⟩
      · rintro y rr2 _ _ ⟨kvs, j, y10, y11, rfl, rfl, kl, er, hj, hk⟩
        have hj2 : j < U.length := by
          rcases Nat.lt_or_ge j U.length with h | h
          · exact h
          · rw [List.drop_eq_nil_of_le (by rw [enumA_len, List.length_map]; exact h)] at er
            cases er
        have hg : (enumA 0 (U.map AV.int))[j]? = some (.tup [.int (j : Nat), .int U[j]]) := by
          rw [enumA_get, List.getElem?_map, List.getElem?_eq_getElem hj2]
          simp
        have hj3 : j < (enumA 0 (U.map AV.int)).length := by rw [enumA_len, List.length_map]; exact hj2
        rw [List.drop_eq_getElem_cons hj3, List.cons.injEq] at er
        obtain ⟨rfl, rfl⟩ := er
        have ey : (enumA 0 (U.map AV.int))[j] = .tup [.int (j : Nat), .int U[j]] := by
          have := List.getElem?_eq_getElem hj3
          rw [hg] at this
          exact (Option.some.inj this).symm
        rw [ey]
        refine ⟨uN _, fun nx2 hnx2 => ?_⟩
        simp only [aNext, aAsg, aName, aVar, slot, put, aC, aOp, aUn, aTest, aChain, aAnd, aOr, aNot, aAndV, aOrV, aNotV, aIf, aNil, aCons, aTup, aLst, aCB, aBM, aSl, aPart, aNoPart, aDrop, aRet, aIfS, aPar, aAug, aSub, aUnp, aGNil, aGCons, aCall, aYes, aNilEq, aJoin, wRange1, wAny, wEnum, wEnumD, wKeys, wVals, wItems, lkAt, aLc, aDc, aDc2, aDNew, aRev, aSetd, aGet1, aGet2, isD, dAt, Ab.keyOf, wipeA, List.set_cons_zero, List.set_cons_succ, asStrs_map, bSub, bAdd, bIAdd, bNeg, bIx, bSl, bInt, bSet, bPop, bInsert, bAppend, bExtend, bML, bIsB, one, bLen, bList, bTuple, bSum, bToInt, tyA, at0, at1, at2, at3, ixL0, ixL1, ixL2, set0, set1, set2, updA_same, updA_twice, List.append_nil, List.cons_append, List.nil_append, id_eq]
        refine ⟨rfl, ?_⟩
        refine ⟨sz (by simp), fun p7 h7 => ?_⟩
        have b0 := Int.emod_nonneg ((j : Int) + (turn : Int)) (b := 6) (by decide)
        have b1 := Int.emod_lt_of_pos ((j : Int) + (turn : Int)) (b := 6) (by decide)
        have ea : atI [AV.int 100, AV.int 5, AV.int 41, AV.int 0, AV.int 998, AV.int 6] (((j : Int) + (turn : Int)) % 6) = some (.int (vals.getD (((j : Int) + (turn : Int)) % 6).toNat 0)) := vals_at b0 b1
        have eN : updA (updA M5 N (.dK kvs)) p7 (.lst [AV.int 100, AV.int 5, AV.int 41, AV.int 0, AV.int 998, AV.int 6]) N = some (.dK kvs) := updA_keep h7 updA_same
        simp only [ea, eN]
        refine ⟨by decide, (show _ < 16777216 by omega), ?_⟩
        have np7 : N ≠ p7 := fun e => by rw [← e, updA_same] at h7; cases h7
        rw [updA_swap np7, updA_twice]
        have h7m : M5 p7 = none := by rw [updA_ne (Ne.symm np7)] at h7; exact h7
        refine hnx2 _ _ (Fg.drop1 (wN _) (by rw [updA_ne (Ne.symm np7)]; exact h7m) ⟨putA kvs (.inl U[j]) (.int (vals.getD (((j : Int) + (turn : Int)) % 6).toNat 0)), j + 1, _, _, rfl, rfl, ?_, rfl, hj2, fun n hn hlt => ?_⟩)
        · have := putA_len kvs (.inl U[j]) (.int (vals.getD (((j : Int) + (turn : Int)) % 6).toNat 0))
          omega
        · rw [getK_put]
          by_cases e : U[j] = n
          · subst e
            have ei : U.idxOf U[j] = j := (List.Nodup.idxOf_getElem und j hj2)
            rw [if_pos rfl]
            unfold idx
            rw [ei]
          · rw [if_neg (by simpa using e)]
            refine hk n hn ?_
            rcases Nat.lt_or_ge (U.idxOf n) j with h | h
            · exact h
            · exfalso
              have e2 : U.idxOf n = j := by omega
              have := List.getElem_idxOf (List.idxOf_lt_length_of_mem hn)
              simp only [e2] at this
              exact e this
      · rintro _ _ ⟨kvs, j, y10, y11, rfl, rfl, kl, er, hj, hk⟩
        have hjl : U.length ≤ j := by
          have := congrArg List.length er
          rw [List.length_drop, enumA_len, List.length_map, List.length_nil] at this
          omega
        refine ⟨uN _, .keep ?_⟩
        have hk2 : ∀ n ∈ U, getK kvs (.inl n) = some (.int (vals.getD ((idx U n + turn) % 6).toNat 0)) := fun n hn => hk n hn (Nat.lt_of_lt_of_le (List.idxOf_lt_length_of_mem hn) hjl)
        have f6 : ∀ n, ((idx U n + (turn : Int)) % 6).toNat < 6 := fun n => by
          have b0 := Int.emod_nonneg (idx U n + (turn : Int)) (b := 6) (by decide)
          have b1 := Int.emod_lt_of_pos (idx U n + (turn : Int)) (b := 6) (by decide)
          omega
        have inU : ∀ t ∈ ts, ∀ n ∈ t.nums, n ∈ U := fun t ht n hn => Trm.nums_ok (R.ok t ht) n hn
        have inj : Inj (fun n => vals.getD ((idx U n + (turn : Int)) % 6).toNat 0) (unksL ts) := by
          intro a ha b hb e
          obtain ⟨t, ht, ha⟩ := unksL_mem.mp ha
          obtain ⟨u, hu, hb⟩ := unksL_mem.mp hb
          have ha := inU t ht a ha
          have hb := inU u hu b hb
          have e2 := vals_inj _ (f6 a) _ (f6 b) e
          have l1 := idx_lt ha
          have l2 := idx_lt hb
          refine idx_inj U a ha b hb ?_
          omega
        refine seq_i ?_
        simp only [aNext, aAsg, aName, aVar, slot, put, aC, aOp, aUn, aTest, aChain, aAnd, aOr, aNot, aAndV, aOrV, aNotV, aIf, aNil, aCons, aTup, aLst, aCB, aBM, aSl, aPart, aNoPart, aDrop, aRet, aIfS, aPar, aAug, aSub, aUnp, aGNil, aGCons, aCall, aYes, aNilEq, aJoin, wRange1, wAny, wEnum, wEnumD, wKeys, wVals, wItems, lkAt, aLc, aDc, aDc2, aDNew, aRev, aSetd, aGet1, aGet2, isD, dAt, Ab.keyOf, wipeA, List.set_cons_zero, List.set_cons_succ, asStrs_map, bSub, bAdd, bIAdd, bNeg, bIx, bSl, bInt, bSet, bPop, bInsert, bAppend, bExtend, bML, bIsB, one, bLen, bList, bTuple, bSum, bToInt, tyA, at0, at1, at2, at3, ixL0, ixL1, ixL2, set0, set1, set2, updA_same, updA_twice, List.append_nil, List.cons_append, List.nil_append, id_eq]
        intro L hL
        refine lc_mapT Trm.av (fun t => (t.ren fun n => vals.getD ((idx U n + (turn : Int)) % 6).toNat 0).av) (fun _ => trivial) ts (fun t ht acc k3 hk3 => ?_) (show _ < 16777216 by have := R.len; omega) ?_
        · simp only [aNext, aAsg, aName, aVar, slot, put, aC, aOp, aUn, aTest, aChain, aAnd, aOr, aNot, aAndV, aOrV, aNotV, aIf, aNil, aCons, aTup, aLst, aCB, aBM, aSl, aPart, aNoPart, aDrop, aRet, aIfS, aPar, aAug, aSub, aUnp, aGNil, aGCons, aCall, aYes, aNilEq, aJoin, wRange1, wAny, wEnum, wEnumD, wKeys, wVals, wItems, lkAt, aLc, aDc, aDc2, aDNew, aRev, aSetd, aGet1, aGet2, isD, dAt, Ab.keyOf, wipeA, List.set_cons_zero, List.set_cons_succ, asStrs_map, bSub, bAdd, bIAdd, bNeg, bIx, bSl, bInt, bSet, bPop, bInsert, bAppend, bExtend, bML, bIsB, one, bLen, bList, bTuple, bSum, bToInt, tyA, at0, at1, at2, at3, ixL0, ixL1, ixL2, set0, set1, set2, updA_same, updA_twice, List.append_nil, List.cons_append, List.nil_append, id_eq, spNumbered]
          exact ⟨(wN _).free hL (no _), t, _, _, kvs, _, rfl, R.ok t ht, by have := R.deep t ht; omega, updA_keep hL updA_same, fun i hi => hk2 i (inU t ht i hi), .keep hk3⟩
        · simp only [updA_same]
          have e4 : ts.map (fun t => (t.ren fun n => vals.getD ((idx U n + (turn : Int)) % 6).toNat 0).av) = (ts.map (Trm.ren fun n => vals.getD ((idx U n + (turn : Int)) % 6).toNat 0)).map Trm.av := by
            rw [List.map_map]
            rfl
          rw [e4]
          have R3 : Row Small (ts.map (Trm.ren fun n => vals.getD ((idx U n + (turn : Int)) % 6).toNat 0)) := R.ren fun n hn => by
            have := vals_small _ (f6 n)
            unfold Small
            exact Nat.lt_of_le_of_lt (show (vals.getD ((idx U n + (turn : Int)) % 6).toNat 0).natAbs ≤ 1000 by omega) (by decide +kernel)
          refine .drop w5 ((Sub.refl.new hN).alloc hL) ?_
          simp only [aNext, aAsg, aName, aVar, slot, put, aC, aOp, aUn, aTest, aChain, aAnd, aOr, aNot, aAndV, aOrV, aNotV, aIf, aNil, aCons, aTup, aLst, aCB, aBM, aSl, aPart, aNoPart, aDrop, aRet, aIfS, aPar, aAug, aSub, aUnp, aGNil, aGCons, aCall, aYes, aNilEq, aJoin, wRange1, wAny, wEnum, wEnumD, wKeys, wVals, wItems, lkAt, aLc, aDc, aDc2, aDNew, aRev, aSetd, aGet1, aGet2, isD, dAt, Ab.keyOf, wipeA, List.set_cons_zero, List.set_cons_succ, asStrs_map, bSub, bAdd, bIAdd, bNeg, bIx, bSl, bInt, bSet, bPop, bInsert, bAppend, bExtend, bML, bIsB, one, bLen, bList, bTuple, bSum, bToInt, tyA, at0, at1, at2, at3, ixL0, ixL1, ixL2, set0, set1, set2, updA_same, updA_twice, List.append_nil, List.cons_append, List.nil_append, id_eq]
          refine R3.sp w5 ?_
          rw [renL_ren inj]
          simp only [bq_same R1.fine (Nat.le_trans R1.depth (by decide)), Bool.not_true, if_neg Bool.false_ne_true]
          rw [← List.map_reverse]
          refine R.rev.sp w5 ?_
          simp only [repr_fine R2.fine (Nat.le_trans R2.depth (by decide)) R2.weight]
          refine R.rev.sp w5 ?_
          simp only [repr_fine R2.fine (Nat.le_trans R2.depth (by decide)) R2.weight, bq_str, decide_true, Bool.not_true, if_neg Bool.false_ne_true]
          exact hnx _ _ (.drop w2 sub5 ⟨rfl, fun y hy => hx y (List.mem_cons_of_mem _ hy), _, _, _, _, _, _, _, _, _, _, rfl⟩)
    · rintro _ _ ⟨rfl, _, x3, x4, x5, x6, x7, x8, x9, x10, x11, x12, rfl⟩
      refine ⟨trivial, .keep ?_⟩
      simp only [aNext, aAsg, aName, aVar, slot, put, aC, aOp, aUn, aTest, aChain, aAnd, aOr, aNot, aAndV, aOrV, aNotV, aIf, aNil, aCons, aTup, aLst, aCB, aBM, aSl, aPart, aNoPart, aDrop, aRet, aIfS, aPar, aAug, aSub, aUnp, aGNil, aGCons, aCall, aYes, aNilEq, aJoin, wRange1, wAny, wEnum, wEnumD, wKeys, wVals, wItems, lkAt, aLc, aDc, aDc2, aDNew, aRev, aSetd, aGet1, aGet2, isD, dAt, Ab.keyOf, wipeA, List.set_cons_zero, List.set_cons_succ, asStrs_map, bSub, bAdd, bIAdd, bNeg, bIx, bSl, bInt, bSet, bPop, bInsert, bAppend, bExtend, bML, bIsB, one, bLen, bList, bTuple, bSum, bToInt, tyA, at0, at1, at2, at3, ixL0, ixL1, ixL2, set0, set1, set2, updA_same, updA_twice, List.append_nil, List.cons_append, List.nil_append, id_eq]
      refine ⟨sz (by simp), ?_⟩
      have R0 : Row (fun _ => True) [] := ⟨fun _ h => absurd h List.not_mem_nil, fun _ h => absurd h List.not_mem_nil, fun _ h => absurd h List.not_mem_nil, by decide⟩
      refine R0.sp w2 ?_
      refine ⟨sz (by simp), ?_⟩
      show bEqB id (.tup []) (.tup []) _ _
      rw [nil_0]
      exact Fin.same (k _)
    · obtain ⟨i, rfl, hi⟩ := upto_mem hx
      exact ⟨i, rfl, by omega⟩
  · exact h.elim
end K03

namespace K03
open PySem PySem.Spec PyProof.Rows L2 Ab
theorem no_def {P : Program} {w : World} {K : PySem.W.Frag} {mg : Str → Option Value} {base : Heap} {k : Nat} {x : Str} {st : Stmt} {ps : List Str} (T : Top K mg x st ps) : Def P w K mg base k x ps (fun _ _ _ => False) := by
  obtain ⟨f, fd, hm, F, B⟩ := T.ex
  exact ⟨f, fd, hm, F.kp, B, ⟨fun _ _ _ _ ⟨_, _, _, _, _, h, _⟩ => h.elim, fun _ _ _ _ _ _ _ _ _ _ _ _ _ _ ⟨_, _, _, _, _, h, _⟩ => h.elim⟩⟩
section
variable {P : Program} {w : World} {K : PySem.W.Frag} {mg : Str → Option Value} {base : Heap} {k : Nat}
theorem d_tips_in (T : Txt K mg) : Def P w K mg base 1 "tips_in" p_tips_in spTips := w_tips_in (k := 0) T  (fun xs m q h => by
  unfold spTips at h; split at h <;> first | rfl | exact h.elim) r_tips_in
theorem d_unknowns_in (T : Txt K mg) : Def P w K mg base 2 "unknowns_in" p_unknowns_in spUnks := w_unknowns_in (k := 1) T ((d_tips_in T).up (by omega)) (fun xs m q h => by
  unfold spUnks at h; split at h <;> first | rfl | exact h.elim) r_unknowns_in
theorem len_numbered {n : Nat} {xs : List AV} {m : AHp} {q : AK} (h : spNumbered n xs m q) : xs.length = 2 := by
  unfold spNumbered at h; split at h <;> first | rfl | exact h.elim
theorem d_numbered (T : Txt K mg) : ∀ n, Def P w K mg base (1 + n) "numbered" p_numbered (spNumbered n)
  | 0 => w_numbered (k := 0) T (no_def T.t_numbered) (fun _ _ _ h => len_numbered h) (r_numbered 0 fun _ _ _ h => absurd rfl h)
  | n + 1 => w_numbered (k := 1 + n) T ((d_numbered T n).up (by omega)) (fun _ _ _ h => len_numbered h) (r_numbered (n + 1) fun _ _ _ _ h => h)
theorem d_renamed (T : Txt K mg) : Def P w K mg base 62 "renamed" p_renamed spRen := w_renamed (k := 61) T ((d_numbered T 60).up (by omega)) ((d_unknowns_in T).up (by omega)) (fun xs m q h => by
  unfold spRen at h; split at h <;> first | rfl | exact h.elim) r_renamed
theorem d__law_deck (T : Txt K mg) : Def P w K mg base 1 "_law_deck" p__law_deck spDeck := w__law_deck (k := 0) T  (fun xs m q h => by
  unfold spDeck at h; split at h <;> first | rfl | exact h.elim) r__law_deck
theorem d__law_draw (T : Txt K mg) : Def P w K mg base 1 "_law_draw" p__law_draw spDraw := w__law_draw (k := 0) T  (fun xs m q h => by
  unfold spDraw at h; split at h <;> first | rfl | exact h.elim) r__law_draw
theorem d__law_names (T : Txt K mg) : Def P w K mg base 2 "_law_names" p__law_names spNames := w__law_names (k := 1) T ((d__law_draw T).up (by omega)) (fun xs m q h => by
  unfold spNames at h; split at h <;> first | rfl | exact h.elim) r__law_names
theorem d__law_number (T : Txt K mg) : Def P w K mg base 2 "_law_number" p__law_number spNumber := w__law_number (k := 1) T ((d__law_draw T).up (by omega)) (fun xs m q h => by
  unfold spNumber at h; split at h <;> first | rfl | exact h.elim) r__law_number
theorem d__law_tip (T : Txt K mg) : Def P w K mg base 3 "_law_tip" p__law_tip spTip := w__law_tip (k := 2) T ((d__law_draw T).up (by omega)) ((d__law_number T).up (by omega)) (fun xs m q h => by
  unfold spTip at h; split at h <;> first | rfl | exact h.elim) r__law_tip
theorem len__law_term {n : Nat} {xs : List AV} {m : AHp} {q : AK} (h : spTerm n xs m q) : xs.length = 5 := by
  unfold spTerm at h; split at h <;> first | rfl | exact h.elim
theorem d__law_term (T : Txt K mg) : ∀ n, Def P w K mg base (4 + n) "_law_term" p__law_term (spTerm n)
  | 0 => w__law_term (k := 3) T ((d__law_draw T).up (by omega)) (no_def T.t__law_term) ((d__law_tip T).up (by omega)) (fun _ _ _ h => len__law_term h) (r__law_term 0 fun _ _ _ h => absurd rfl h)
  | n + 1 => w__law_term (k := 4 + n) T ((d__law_draw T).up (by omega)) ((d__law_term T n).up (by omega)) ((d__law_tip T).up (by omega)) (fun _ _ _ h => len__law_term h) (r__law_term (n + 1) fun _ _ _ _ h => h)
theorem d__law_any_term (T : Txt K mg) : Def P w K mg base 34 "_law_any_term" p__law_any_term spAny := w__law_any_term (k := 33) T ((d__law_draw T).up (by omega)) ((d__law_term T 29).up (by omega)) ((d__law_tip T).up (by omega)) (fun xs m q h => by
  unfold spAny at h; split at h <;> first | rfl | exact h.elim) r__law_any_term
theorem len__law_unknowns {n : Nat} {xs : List AV} {m : AHp} {q : AK} (h : spLawUnks n xs m q) : xs.length = 1 := by
  unfold spLawUnks at h; split at h <;> first | rfl | exact h.elim
theorem d__law_unknowns (T : Txt K mg) : ∀ n, Def P w K mg base (1 + n) "_law_unknowns" p__law_unknowns (spLawUnks n)
  | 0 => w__law_unknowns (k := 0) T (no_def T.t__law_unknowns) (fun _ _ _ h => len__law_unknowns h) (r__law_unknowns 0 fun _ _ _ h => absurd rfl h)
  | n + 1 => w__law_unknowns (k := 1 + n) T ((d__law_unknowns T n).up (by omega)) (fun _ _ _ h => len__law_unknowns h) (r__law_unknowns (n + 1) fun _ _ _ _ h => h)
theorem len__law_numbered {n : Nat} {xs : List AV} {m : AHp} {q : AK} (h : spNumbered n xs m q) : xs.length = 2 := by
  unfold spNumbered at h; split at h <;> first | rfl | exact h.elim
theorem d__law_numbered (T : Txt K mg) : ∀ n, Def P w K mg base (1 + n) "_law_numbered" p__law_numbered (spNumbered n)
  | 0 => w__law_numbered (k := 0) T (no_def T.t__law_numbered) (fun _ _ _ h => len__law_numbered h) (r__law_numbered 0 fun _ _ _ h => absurd rfl h)
  | n + 1 => w__law_numbered (k := 1 + n) T ((d__law_numbered T n).up (by omega)) (fun _ _ _ h => len__law_numbered h) (r__law_numbered (n + 1) fun _ _ _ _ h => h)
theorem d__law_due (T : Txt K mg) : Def P w K mg base 62 "_law_due" p__law_due spRen := w__law_due (k := 61) T ((d__law_numbered T 60).up (by omega)) ((d__law_unknowns T 60).up (by omega)) (fun xs m q h => by
  unfold spRen at h; split at h <;> first | rfl | exact h.elim) r__law_due
theorem end_law (T : Txt K mg) {fa : Addr} (hfa : mg "law" = some (.ref fa)) : ∃ fd : FuncData, (∀ (s : Shared) (v : Value), BindsTo s fd ⟨[v], []⟩ [("_law_script", v)]) ∧ ∀ base : Heap, K.In base → base.Ns mainGlobals mg → AFn P w K mg base 63 fa fd ["_law_script"] spEnd := by
  obtain ⟨f, fd, hm, F, B⟩ := T.t_law.ex
  have e := hfa.symm.trans hm
  cases e
  refine ⟨fd, fun s v => ?_, fun base _ _ => okB (k := 62) F sc_law (fun xs m q h => by unfold spEnd at h; split at h <;> first | rfl | exact h.elim) fun cdv A o s H E hr hgd => ?_⟩
  · obtain ⟨oc, od, kV, doc, pm, an, cdv, ct, osl, rfl, lk, hcd⟩ := F.ex
    exact .of_eq rfl
  · have hu := room164 hr
    have d__law_any_term := (d__law_any_term (P := P) (w := w) (base := base) T).up (show 34 ≤ 62 by omega)
    have d__law_deck := (d__law_deck (P := P) (w := w) (base := base) T).up (show 1 ≤ 62 by omega)
    have d__law_draw := (d__law_draw (P := P) (w := w) (base := base) T).up (show 1 ≤ 62 by omega)
    have d__law_due := (d__law_due (P := P) (w := w) (base := base) T).up (show 62 ≤ 62 by omega)
    have d__law_names := (d__law_names (P := P) (w := w) (base := base) T).up (show 2 ≤ 62 by omega)
    have d__law_numbered := (d__law_numbered (P := P) (w := w) (base := base) T 60).up (show 1 + 60 ≤ 62 by omega)
    have d_renamed := (d_renamed (P := P) (w := w) (base := base) T).up (show 62 ≤ 62 by omega)
    exact ⟨(t_law K spAny spDeck spDraw spRen spNames (spNumbered 60) spRen), (ass_cons (as_set (i := 1) sc_law.nd rfl (.inr rfl) (ae_callN d__law_deck hr (by omega) hgd rfl (aa_cons (ae_var (pv 0)) aa_nil)))
      (ass_cons (as_set (i := 2) sc_law.nd rfl (.inr rfl) (ae_callN d__law_names hr (by omega) hgd rfl (aa_cons (ae_var (pv 1)) (aa_cons ae_int aa_nil))))
      (ass_cons (as_for PassesOwn.never rfl (ai_range1 rfl T.b_range ae_int) (ag_name (pg_name (i := 3) sc_law.nd rfl (.inl rfl)))
        (ass_cons (as_set (i := 4) sc_law.nd rfl (.inl rfl) (ae_cmp (ob_eq hu) (ae_callN d__law_draw hr (by omega) hgd rfl (aa_cons (ae_var (pv 1)) (aa_cons ae_int aa_nil))) ae_int (nomark _)))
      (ass_cons (as_set (i := 5) sc_law.nd rfl (.inr rfl) (ae_ix (ob_ix hu) (ae_lst (aa_cons (ae_lst (aa_cons ae_int (aa_cons ae_int (aa_cons ae_int aa_nil)))) (aa_cons (ae_lst (aa_cons ae_int (aa_cons ae_int (aa_cons ae_int (aa_cons ae_int (aa_cons ae_int (aa_cons ae_int aa_nil))))))) (aa_cons (ae_lst (aa_cons ae_int aa_nil)) aa_nil)))) (ae_callN d__law_draw hr (by omega) hgd rfl (aa_cons (ae_var (pv 1)) (aa_cons ae_int aa_nil)))))
      (ass_cons (as_set (i := 6) sc_law.nd rfl (.inl rfl) (ae_ix (ob_ix hu) (ae_lst (aa_cons (ae_callN d__law_draw hr (by omega) hgd rfl (aa_cons (ae_var (pv 1)) (aa_cons ae_int aa_nil))) (aa_cons ae_int aa_nil))) (ae_callTy cb_int (by rfl) T.b_int (by decide +kernel) (aa_cons (ae_var (pv 4)) aa_nil))))
      (ass_cons (as_set (i := 7) sc_law.nd rfl (.inl rfl) (ae_callTy cb_tuple (by rfl) T.b_tuple (by decide +kernel) (aa_cons (ae_lc (own := [("_law_k", 10)]) rfl sc_law.nd (ai_range1 rfl T.b_range (ae_var (pv 6))) (blkOk_by (own := [("_law_k", 10)]) (N := n_law) (sc := defScope s_law) (by decide +kernel)) (fun _ _ _ _ _ => (ag_name (pg_name (i := 10) sc_law.nd rfl (.inl rfl)))) (fun _ _ _ _ _ => ats_nil) (fun _ _ _ _ _ => (ae_callN d__law_any_term hr (by omega) hgd rfl (aa_cons (ae_var (pv 1)) (aa_cons (ae_var (pv 2)) (aa_cons (ae_var (pv 5)) aa_nil)))))) aa_nil)))
      (ass_cons (as_set (i := 8) sc_law.nd rfl (.inl rfl) (ae_callN d__law_due hr (by omega) hgd rfl (aa_cons (ae_var (pv 7)) aa_nil)))
      (ass_cons (as_if (at_w (aw_or (at_cmp (ob_ne hu) (ae_callB (cb_repr hu hgd) (by rfl) T.b_repr (by decide +kernel) (aa_cons (ae_callN d_renamed hr (by omega) hgd rfl (aa_cons (ae_var (pv 7)) aa_nil)) aa_nil)) (ae_callB (cb_repr hu hgd) (by rfl) T.b_repr (by decide +kernel) (aa_cons (ae_var (pv 8)) aa_nil)) (nomark _)) (aw_or1 (at_cmp (ob_ne hu) (ae_callN d_renamed hr (by omega) hgd rfl (aa_cons (ae_var (pv 8)) aa_nil)) (ae_var (pv 8)) (nomark _)))))
        (ass_one (as_ret ae_bl))
        ass_nil)
      (ass_cons (as_set (i := 9) sc_law.nd rfl (.inr rfl) ae_dnew)
      (ass_cons (as_for PassesOwn.never rfl (ai_enum (by rfl) T.b_enumerate (ae_var (pv 5))) (ag_tup rfl (ags_cons (ag_name (pg_name (i := 10) sc_law.nd rfl (.inl rfl))) (ags_cons (ag_name (pg_name (i := 11) sc_law.nd rfl (.inl rfl))) ags_nil)))
        (ass_one (as_asg (ae_ix (ob_ix hu) (ae_lst (aa_cons ae_int (aa_cons ae_int (aa_cons ae_int (aa_cons ae_int (aa_cons ae_int (aa_cons ae_int aa_nil))))))) (ae_op ob_mod (ae_op ob_add (ae_var (pv 10)) (ae_var (pv 3))) ae_int)) (ag_sub (ae_var (pv 9)) (ae_var (pv 11)) (st_set hu)))))
      (ass_cons (as_set (i := 12) sc_law.nd rfl (.inl rfl) (ae_callTy cb_tuple (by rfl) T.b_tuple (by decide +kernel) (aa_cons (ae_lc (own := [("_law_term_here", 13)]) rfl sc_law.nd (ai_seq (ae_var (pv 7))) (blkOk_by (own := [("_law_term_here", 13)]) (N := n_law) (sc := defScope s_law) (by decide +kernel)) (fun _ _ _ _ _ => (ag_name (pg_name (i := 13) sc_law.nd rfl (.inl rfl)))) (fun _ _ _ _ _ => ats_nil) (fun _ _ _ _ _ => (ae_callN d__law_numbered hr (by omega) hgd rfl (aa_cons (ae_var (pv 13)) (aa_cons (ae_var (pv 9)) aa_nil))))) aa_nil)))
      (ass_one (as_if (at_w (aw_or (at_cmp (ob_ne hu) (ae_callN d_renamed hr (by omega) hgd rfl (aa_cons (ae_var (pv 12)) aa_nil)) (ae_var (pv 8)) (nomark _)) (aw_or1 (at_cmp (ob_ne hu) (ae_callB (cb_repr hu hgd) (by rfl) T.b_repr (by decide +kernel) (aa_cons (ae_callN d_renamed hr (by omega) hgd rfl (aa_cons (ae_rev (ae_var (pv 7))) aa_nil)) aa_nil)) (ae_callB (cb_repr hu hgd) (by rfl) T.b_repr (by decide +kernel) (aa_cons (ae_callN d__law_due hr (by omega) hgd rfl (aa_cons (ae_rev (ae_var (pv 7))) aa_nil)) aa_nil)) (nomark _)))))
        (ass_one (as_ret ae_bl))
        ass_nil))))))))))))
      (ass_one (as_ret (ae_cmp (ob_eq hu) (ae_callN d_renamed hr (by omega) hgd rfl (aa_cons (ae_tup aa_nil) aa_nil)) (ae_tup aa_nil) (nomark _))))))), r_law⟩
end
theorem txt_mk {K : PySem.W.Frag} {h : Heap} {mg : Str → Option Value} (X : K.In h) (G : h.Ns mainGlobals mg)
    {f0 : Addr} {od0 an0 : Option Addr} {sl0 : Array (Option Value)} {oc0 kV0 dc0 pm0 cd0 ct0 : Value}
    (a0 : PySem.W.nsIn K mainGlobals "tips_in" = some (some (.ref f0))) (l0 : K.lookup f0 = some ⟨oc0, od0, .func (PySem.W.fnOf "tips_in" "tips_in" (defArgs s_tips_in) (defBody s_tips_in) (defScope s_tips_in) .none kV0 dc0 pm0 an0 cd0 ct0), sl0⟩) (c0 : PySem.W.codeIn K cd0 "tips_in" = true) (k0 : PySem.W.keepIn K (.ref f0) = true)
    {f1 : Addr} {od1 an1 : Option Addr} {sl1 : Array (Option Value)} {oc1 kV1 dc1 pm1 cd1 ct1 : Value}
    (a1 : PySem.W.nsIn K mainGlobals "unknowns_in" = some (some (.ref f1))) (l1 : K.lookup f1 = some ⟨oc1, od1, .func (PySem.W.fnOf "unknowns_in" "unknowns_in" (defArgs s_unknowns_in) (defBody s_unknowns_in) (defScope s_unknowns_in) .none kV1 dc1 pm1 an1 cd1 ct1), sl1⟩) (c1 : PySem.W.codeIn K cd1 "unknowns_in" = true) (k1 : PySem.W.keepIn K (.ref f1) = true)
    {f2 : Addr} {od2 an2 : Option Addr} {sl2 : Array (Option Value)} {oc2 kV2 dc2 pm2 cd2 ct2 : Value}
    (a2 : PySem.W.nsIn K mainGlobals "numbered" = some (some (.ref f2))) (l2 : K.lookup f2 = some ⟨oc2, od2, .func (PySem.W.fnOf "numbered" "numbered" (defArgs s_numbered) (defBody s_numbered) (defScope s_numbered) .none kV2 dc2 pm2 an2 cd2 ct2), sl2⟩) (c2 : PySem.W.codeIn K cd2 "numbered" = true) (k2 : PySem.W.keepIn K (.ref f2) = true)
    {f3 : Addr} {od3 an3 : Option Addr} {sl3 : Array (Option Value)} {oc3 kV3 dc3 pm3 cd3 ct3 : Value}
    (a3 : PySem.W.nsIn K mainGlobals "renamed" = some (some (.ref f3))) (l3 : K.lookup f3 = some ⟨oc3, od3, .func (PySem.W.fnOf "renamed" "renamed" (defArgs s_renamed) (defBody s_renamed) (defScope s_renamed) .none kV3 dc3 pm3 an3 cd3 ct3), sl3⟩) (c3 : PySem.W.codeIn K cd3 "renamed" = true) (k3 : PySem.W.keepIn K (.ref f3) = true)
    {f4 : Addr} {od4 an4 : Option Addr} {sl4 : Array (Option Value)} {oc4 kV4 dc4 pm4 cd4 ct4 : Value}
    (a4 : PySem.W.nsIn K mainGlobals "_law_deck" = some (some (.ref f4))) (l4 : K.lookup f4 = some ⟨oc4, od4, .func (PySem.W.fnOf "_law_deck" "_law_deck" (defArgs s__law_deck) (defBody s__law_deck) (defScope s__law_deck) .none kV4 dc4 pm4 an4 cd4 ct4), sl4⟩) (c4 : PySem.W.codeIn K cd4 "_law_deck" = true) (k4 : PySem.W.keepIn K (.ref f4) = true)
    {f5 : Addr} {od5 an5 : Option Addr} {sl5 : Array (Option Value)} {oc5 kV5 dc5 pm5 cd5 ct5 : Value}
    (a5 : PySem.W.nsIn K mainGlobals "_law_draw" = some (some (.ref f5))) (l5 : K.lookup f5 = some ⟨oc5, od5, .func (PySem.W.fnOf "_law_draw" "_law_draw" (defArgs s__law_draw) (defBody s__law_draw) (defScope s__law_draw) .none kV5 dc5 pm5 an5 cd5 ct5), sl5⟩) (c5 : PySem.W.codeIn K cd5 "_law_draw" = true) (k5 : PySem.W.keepIn K (.ref f5) = true)
    {f6 : Addr} {od6 an6 : Option Addr} {sl6 : Array (Option Value)} {oc6 kV6 dc6 pm6 cd6 ct6 : Value}
    (a6 : PySem.W.nsIn K mainGlobals "_law_names" = some (some (.ref f6))) (l6 : K.lookup f6 = some ⟨oc6, od6, .func (PySem.W.fnOf "_law_names" "_law_names" (defArgs s__law_names) (defBody s__law_names) (defScope s__law_names) .none kV6 dc6 pm6 an6 cd6 ct6), sl6⟩) (c6 : PySem.W.codeIn K cd6 "_law_names" = true) (k6 : PySem.W.keepIn K (.ref f6) = true)
    {f7 : Addr} {od7 an7 : Option Addr} {sl7 : Array (Option Value)} {oc7 kV7 dc7 pm7 cd7 ct7 : Value}
    (a7 : PySem.W.nsIn K mainGlobals "_law_number" = some (some (.ref f7))) (l7 : K.lookup f7 = some ⟨oc7, od7, .func (PySem.W.fnOf "_law_number" "_law_number" (defArgs s__law_number) (defBody s__law_number) (defScope s__law_number) .none kV7 dc7 pm7 an7 cd7 ct7), sl7⟩) (c7 : PySem.W.codeIn K cd7 "_law_number" = true) (k7 : PySem.W.keepIn K (.ref f7) = true)
    {f8 : Addr} {od8 an8 : Option Addr} {sl8 : Array (Option Value)} {oc8 kV8 dc8 pm8 cd8 ct8 : Value}
    (a8 : PySem.W.nsIn K mainGlobals "_law_tip" = some (some (.ref f8))) (l8 : K.lookup f8 = some ⟨oc8, od8, .func (PySem.W.fnOf "_law_tip" "_law_tip" (defArgs s__law_tip) (defBody s__law_tip) (defScope s__law_tip) .none kV8 dc8 pm8 an8 cd8 ct8), sl8⟩) (c8 : PySem.W.codeIn K cd8 "_law_tip" = true) (k8 : PySem.W.keepIn K (.ref f8) = true)
    {f9 : Addr} {od9 an9 : Option Addr} {sl9 : Array (Option Value)} {oc9 kV9 dc9 pm9 cd9 ct9 : Value}
    (a9 : PySem.W.nsIn K mainGlobals "_law_term" = some (some (.ref f9))) (l9 : K.lookup f9 = some ⟨oc9, od9, .func (PySem.W.fnOf "_law_term" "_law_term" (defArgs s__law_term) (defBody s__law_term) (defScope s__law_term) .none kV9 dc9 pm9 an9 cd9 ct9), sl9⟩) (c9 : PySem.W.codeIn K cd9 "_law_term" = true) (k9 : PySem.W.keepIn K (.ref f9) = true)
    {f10 : Addr} {od10 an10 : Option Addr} {sl10 : Array (Option Value)} {oc10 kV10 dc10 pm10 cd10 ct10 : Value}
    (a10 : PySem.W.nsIn K mainGlobals "_law_any_term" = some (some (.ref f10))) (l10 : K.lookup f10 = some ⟨oc10, od10, .func (PySem.W.fnOf "_law_any_term" "_law_any_term" (defArgs s__law_any_term) (defBody s__law_any_term) (defScope s__law_any_term) .none kV10 dc10 pm10 an10 cd10 ct10), sl10⟩) (c10 : PySem.W.codeIn K cd10 "_law_any_term" = true) (k10 : PySem.W.keepIn K (.ref f10) = true)
    {f11 : Addr} {od11 an11 : Option Addr} {sl11 : Array (Option Value)} {oc11 kV11 dc11 pm11 cd11 ct11 : Value}
    (a11 : PySem.W.nsIn K mainGlobals "_law_unknowns" = some (some (.ref f11))) (l11 : K.lookup f11 = some ⟨oc11, od11, .func (PySem.W.fnOf "_law_unknowns" "_law_unknowns" (defArgs s__law_unknowns) (defBody s__law_unknowns) (defScope s__law_unknowns) .none kV11 dc11 pm11 an11 cd11 ct11), sl11⟩) (c11 : PySem.W.codeIn K cd11 "_law_unknowns" = true) (k11 : PySem.W.keepIn K (.ref f11) = true)
    {f12 : Addr} {od12 an12 : Option Addr} {sl12 : Array (Option Value)} {oc12 kV12 dc12 pm12 cd12 ct12 : Value}
    (a12 : PySem.W.nsIn K mainGlobals "_law_numbered" = some (some (.ref f12))) (l12 : K.lookup f12 = some ⟨oc12, od12, .func (PySem.W.fnOf "_law_numbered" "_law_numbered" (defArgs s__law_numbered) (defBody s__law_numbered) (defScope s__law_numbered) .none kV12 dc12 pm12 an12 cd12 ct12), sl12⟩) (c12 : PySem.W.codeIn K cd12 "_law_numbered" = true) (k12 : PySem.W.keepIn K (.ref f12) = true)
    {f13 : Addr} {od13 an13 : Option Addr} {sl13 : Array (Option Value)} {oc13 kV13 dc13 pm13 cd13 ct13 : Value}
    (a13 : PySem.W.nsIn K mainGlobals "_law_due" = some (some (.ref f13))) (l13 : K.lookup f13 = some ⟨oc13, od13, .func (PySem.W.fnOf "_law_due" "_law_due" (defArgs s__law_due) (defBody s__law_due) (defScope s__law_due) .none kV13 dc13 pm13 an13 cd13 ct13), sl13⟩) (c13 : PySem.W.codeIn K cd13 "_law_due" = true) (k13 : PySem.W.keepIn K (.ref f13) = true)
    {f14 : Addr} {od14 an14 : Option Addr} {sl14 : Array (Option Value)} {oc14 kV14 dc14 pm14 cd14 ct14 : Value}
    (a14 : PySem.W.nsIn K mainGlobals "law" = some (some (.ref f14))) (l14 : K.lookup f14 = some ⟨oc14, od14, .func (PySem.W.fnOf "law" "law" (defArgs s_law) (defBody s_law) (defScope s_law) .none kV14 dc14 pm14 an14 cd14 ct14), sl14⟩) (c14 : PySem.W.codeIn K cd14 "law" = true) (k14 : PySem.W.keepIn K (.ref f14) = true)
    (b_enumerate : PySem.W.nsIn K mainGlobals "enumerate" = some none)
    (b_int : PySem.W.nsIn K mainGlobals "int" = some none)
    (b_isinstance : PySem.W.nsIn K mainGlobals "isinstance" = some none)
    (b_len : PySem.W.nsIn K mainGlobals "len" = some none)
    (b_list : PySem.W.nsIn K mainGlobals "list" = some none)
    (b_range : PySem.W.nsIn K mainGlobals "range" = some none)
    (b_repr : PySem.W.nsIn K mainGlobals "repr" = some none)
    (b_sum : PySem.W.nsIn K mainGlobals "sum" = some none)
    (b_tuple : PySem.W.nsIn K mainGlobals "tuple" = some none)
    {t_UNKNOWN : Tok} (c_UNKNOWN : PySem.W.nsIn K mainGlobals "UNKNOWN" = some (some (.str "?" t_UNKNOWN)))
    : Txt K mg where
  b_enumerate := PySem.W.mg_none_of X G b_enumerate
  b_int := PySem.W.mg_none_of X G b_int
  b_isinstance := PySem.W.mg_none_of X G b_isinstance
  b_len := PySem.W.mg_none_of X G b_len
  b_list := PySem.W.mg_none_of X G b_list
  b_range := PySem.W.mg_none_of X G b_range
  b_repr := PySem.W.mg_none_of X G b_repr
  b_sum := PySem.W.mg_none_of X G b_sum
  b_tuple := PySem.W.mg_none_of X G b_tuple
  c_UNKNOWN := ⟨t_UNKNOWN, PySem.W.mg_of X G c_UNKNOWN⟩
  t_tips_in := top_mk X G a0 l0 c0 k0 (fun _ _ _ _ _ _ us hl => match us, hl with | [_], _ => rfl)
  t_unknowns_in := top_mk X G a1 l1 c1 k1 (fun _ _ _ _ _ _ us hl => match us, hl with | [_], _ => rfl)
  t_numbered := top_mk X G a2 l2 c2 k2 (fun _ _ _ _ _ _ us hl => match us, hl with | [_, _], _ => rfl)
  t_renamed := top_mk X G a3 l3 c3 k3 (fun _ _ _ _ _ _ us hl => match us, hl with | [_], _ => rfl)
  t__law_deck := top_mk X G a4 l4 c4 k4 (fun _ _ _ _ _ _ us hl => match us, hl with | [_], _ => rfl)
  t__law_draw := top_mk X G a5 l5 c5 k5 (fun _ _ _ _ _ _ us hl => match us, hl with | [_, _], _ => rfl)
  t__law_names := top_mk X G a6 l6 c6 k6 (fun _ _ _ _ _ _ us hl => match us, hl with | [_, _], _ => rfl)
  t__law_number := top_mk X G a7 l7 c7 k7 (fun _ _ _ _ _ _ us hl => match us, hl with | [_], _ => rfl)
  t__law_tip := top_mk X G a8 l8 c8 k8 (fun _ _ _ _ _ _ us hl => match us, hl with | [_, _, _], _ => rfl)
  t__law_term := top_mk X G a9 l9 c9 k9 (fun _ _ _ _ _ _ us hl => match us, hl with | [_, _, _, _, _], _ => rfl)
  t__law_any_term := top_mk X G a10 l10 c10 k10 (fun _ _ _ _ _ _ us hl => match us, hl with | [_, _, _], _ => rfl)
  t__law_unknowns := top_mk X G a11 l11 c11 k11 (fun _ _ _ _ _ _ us hl => match us, hl with | [_], _ => rfl)
  t__law_numbered := top_mk X G a12 l12 c12 k12 (fun _ _ _ _ _ _ us hl => match us, hl with | [_, _], _ => rfl)
  t__law_due := top_mk X G a13 l13 c13 k13 (fun _ _ _ _ _ _ us hl => match us, hl with | [_], _ => rfl)
  t_law := top_mk X G a14 l14 c14 k14 (fun _ _ _ _ _ _ us hl => match us, hl with | [_], _ => rfl)
end K03
open PySem PySem.W PyProof.Rows
set_option maxHeartbeats 0 in
theorem PySem.Challenge.cw_fairsearch_k03_renamed_holds : PySem.Challenge.rw_fairsearch_k03_renamed.Holds := by
  w_on; o_law; k_head; (case hw => w_witness2)
  k_fill
  refine Ab.walk_end (l := PySem.Challenge.rw_fairsearch_k03_renamed) (n := 63) (k := 63) (x := "_law_script") rfl (by decide) rfl ⟨rfl, by decide, by decide⟩ (fun w h Y => PySem.W.kIn_of Y) ?F
  case F =>
    intro w mg fa h KX G hmg
    refine' K03.end_law (K03.txt_mk KX G ?a0 ?l0 ?c0 ?k0 ?a1 ?l1 ?c1 ?k1 ?a2 ?l2 ?c2 ?k2 ?a3 ?l3 ?c3 ?k3 ?a4 ?l4 ?c4 ?k4 ?a5 ?l5 ?c5 ?k5 ?a6 ?l6 ?c6 ?k6 ?a7 ?l7 ?c7 ?k7 ?a8 ?l8 ?c8 ?k8 ?a9 ?l9 ?c9 ?k9 ?a10 ?l10 ?c10 ?k10 ?a11 ?l11 ?c11 ?k11 ?a12 ?l12 ?c12 ?k12 ?a13 ?l13 ?c13 ?k13 ?a14 ?l14 ?c14 ?k14 ?b_enumerate ?b_int ?b_isinstance ?b_len ?b_list ?b_range ?b_repr ?b_sum ?b_tuple ?c_UNKNOWN) hmg
    (case a0 => k_is)
    (case l0 => k_is)
    (case c0 => k_is)
    (case k0 => k_is)
    (case a1 => k_is)
    (case l1 => k_is)
    (case c1 => k_is)
    (case k1 => k_is)
    (case a2 => k_is)
    (case l2 => k_is)
    (case c2 => k_is)
    (case k2 => k_is)
    (case a3 => k_is)
    (case l3 => k_is)
    (case c3 => k_is)
    (case k3 => k_is)
    (case a4 => k_is)
    (case l4 => k_is)
    (case c4 => k_is)
    (case k4 => k_is)
    (case a5 => k_is)
    (case l5 => k_is)
    (case c5 => k_is)
    (case k5 => k_is)
    (case a6 => k_is)
    (case l6 => k_is)
    (case c6 => k_is)
    (case k6 => k_is)
    (case a7 => k_is)
    (case l7 => k_is)
    (case c7 => k_is)
    (case k7 => k_is)
    (case a8 => k_is)
    (case l8 => k_is)
    (case c8 => k_is)
    (case k8 => k_is)
    (case a9 => k_is)
    (case l9 => k_is)
    (case c9 => k_is)
    (case k9 => k_is)
    (case a10 => k_is)
    (case l10 => k_is)
    (case c10 => k_is)
    (case k10 => k_is)
    (case a11 => k_is)
    (case l11 => k_is)
    (case c11 => k_is)
    (case k11 => k_is)
    (case a12 => k_is)
    (case l12 => k_is)
    (case c12 => k_is)
    (case k12 => k_is)
    (case a13 => k_is)
    (case l13 => k_is)
    (case c13 => k_is)
    (case k13 => k_is)
    (case a14 => k_is)
    (case l14 => k_is)
    (case c14 => k_is)
    (case k14 => k_is)
    (case b_enumerate => k_is)
    (case b_int => k_is)
    (case b_isinstance => k_is)
    (case b_len => k_is)
    (case b_list => k_is)
    (case b_range => k_is)
    (case b_repr => k_is)
    (case b_sum => k_is)
    (case b_tuple => k_is)
    (case c_UNKNOWN => k_is)

