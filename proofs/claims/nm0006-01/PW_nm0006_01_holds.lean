import PyProof.Rows.All
import Wide.All
import OpenK.AllK
import Wide.FinOn
import PySem.Challenge.RW_nm0006_01
open PySem PySem.W PyProof.Rows
set_option Elab.async false
namespace Mine
def atomE : Str := Str.ofString "x"
theorem atomE_eq : atomE = atomE := rfl
name_quick tw8075568018651887793 for Mine.atomE by Mine.atomE_eq
name_quick tw17463556721718165098 for Mine.atomE by Mine.atomE_eq
name_quick tw6224834671499428021 for Mine.atomE by Mine.atomE_eq
name_quick tw15790677782504353289 for Mine.atomE by Mine.atomE_eq
name_quick tw16578980201806366562 for Mine.atomE by Mine.atomE_eq
name_quick tw14979626087600564940 for Mine.atomE by Mine.atomE_eq
name_quick tw3897208038386817340 for Mine.atomE by Mine.atomE_eq
name_quick tw14904524295806243326 for Mine.atomE by Mine.atomE_eq
name_quick tw10695241705296601692 for Mine.atomE by Mine.atomE_eq
name_quick tw7562206459401802206 for Mine.atomE by Mine.atomE_eq
name_quick tw12700139031502230420 for Mine.atomE by Mine.atomE_eq
name_quick tw6004533443673955352 for Mine.atomE by Mine.atomE_eq
name_quick tw43969757491396457 for Mine.atomE by Mine.atomE_eq
name_quick tw1291980286583624508 for Mine.atomE by Mine.atomE_eq
name_quick tw1258717718454355964 for Mine.atomE by Mine.atomE_eq
name_quick tw282004115355043989 for Mine.atomE by Mine.atomE_eq
name_quick tw7275051467321613617 for Mine.atomE by Mine.atomE_eq
name_quick tw12233582284571471492 for Mine.atomE by Mine.atomE_eq
name_quick tw17730448691065144110 for Mine.atomE by Mine.atomE_eq
name_quick tw3619232141914619222 for Mine.atomE by Mine.atomE_eq
name_quick tw1829445100760108279 for Mine.atomE by Mine.atomE_eq
name_quick tw3766158894648301139 for Mine.atomE by Mine.atomE_eq
name_quick tw1355338860687761863 for Mine.atomE by Mine.atomE_eq
name_quick tw682011567655089306 for Mine.atomE by Mine.atomE_eq
name_quick tw4011157648589011858 for Mine.atomE by Mine.atomE_eq
name_quick tw13180171748994924942 for Mine.atomE by Mine.atomE_eq
name_quick tw12268644228514654432 for Mine.atomE by Mine.atomE_eq
name_quick tw704327219915372674 for Mine.atomE by Mine.atomE_eq
name_quick tw18350330562280901221 for Mine.atomE by Mine.atomE_eq
name_quick tw10010936943081839664 for Mine.atomE by Mine.atomE_eq
name_quick tw151948405760981731 for Mine.atomE by Mine.atomE_eq
name_quick tw14311459727803291754 for Mine.atomE by Mine.atomE_eq
name_quick tw13607416678640721797 for Mine.atomE by Mine.atomE_eq
name_quick tw13215998728584607739 for Mine.atomE by Mine.atomE_eq
name_quick tw16741492637210864865 for Mine.atomE by Mine.atomE_eq
name_quick tw15168306246750427876 for Mine.atomE by Mine.atomE_eq
name_quick tw951843321253372498 for Mine.atomE by Mine.atomE_eq
name_quick tw14386061602966655976 for Mine.atomE by Mine.atomE_eq
name_quick tw3891137856419664920 for Mine.atomE by Mine.atomE_eq
name_quick tw13789449189825218787 for Mine.atomE by Mine.atomE_eq
name_quick tw4658958612460137192 for Mine.atomE by Mine.atomE_eq
name_quick tw17964007177503468958 for Mine.atomE by Mine.atomE_eq
name_quick tw17888162413812561239 for Mine.atomE by Mine.atomE_eq
name_quick tw14537914154153760125 for Mine.atomE by Mine.atomE_eq
name_quick tw14108194823987119177 for Mine.atomE by Mine.atomE_eq
name_quick tw3577408171920636059 for Mine.atomE by Mine.atomE_eq
name_quick tw5131478536388391638 for Mine.atomE by Mine.atomE_eq
name_quick tw18260038339965228139 for Mine.atomE by Mine.atomE_eq
name_quick tw14126943448341045398 for Mine.atomE by Mine.atomE_eq
name_quick tw11270796479367742343 for Mine.atomE by Mine.atomE_eq
name_quick tw10948738476641704880 for Mine.atomE by Mine.atomE_eq
name_quick tw17975652961387846372 for Mine.atomE by Mine.atomE_eq
name_quick tw15278061642289888581 for Mine.atomE by Mine.atomE_eq
name_quick tw4527066259768149269 for Mine.atomE by Mine.atomE_eq
name_quick tw14333388528381170442 for Mine.atomE by Mine.atomE_eq
name_quick tw11853533878840232495 for Mine.atomE by Mine.atomE_eq
name_quick tw3362959441861295915 for Mine.atomE by Mine.atomE_eq
name_quick tw8579058602437062094 for Mine.atomE by Mine.atomE_eq
name_quick tw17111948838632640456 for Mine.atomE by Mine.atomE_eq
name_quick tw16817318245366136608 for Mine.atomE by Mine.atomE_eq
name_quick tw16548257151911338427 for Mine.atomE by Mine.atomE_eq
name_quick tw10007627690174824804 for Mine.atomE by Mine.atomE_eq
name_quick tw4292500188555128830 for Mine.atomE by Mine.atomE_eq
name_quick tw16531745337717519161 for Mine.atomE by Mine.atomE_eq
name_quick tw14884601019740666482 for Mine.atomE by Mine.atomE_eq
name_quick tw14834023430324568649 for Mine.atomE by Mine.atomE_eq
name_quick tw13016732220969518872 for Mine.atomE by Mine.atomE_eq
name_quick tw15263041282635125899 for Mine.atomE by Mine.atomE_eq
name_quick tw136631920214876835 for Mine.atomE by Mine.atomE_eq
name_quick tw5721027456603625697 for Mine.atomE by Mine.atomE_eq
name_quick tw13317431791736044220 for Mine.atomE by Mine.atomE_eq
name_quick tw6122645084068987007 for Mine.atomE by Mine.atomE_eq
name_quick tw12290603225136948437 for Mine.atomE by Mine.atomE_eq
name_quick tw1537898542681612871 for Mine.atomE by Mine.atomE_eq
name_quick tw14714103240675001986 for Mine.atomE by Mine.atomE_eq
name_quick tw8860024209350480642 for Mine.atomE by Mine.atomE_eq
name_quick tw3778451253796500701 for Mine.atomE by Mine.atomE_eq
name_quick tw17476080006546285661 for Mine.atomE by Mine.atomE_eq
name_quick tw11333186260410459676 for Mine.atomE by Mine.atomE_eq
name_quick tw3282434896037501709 for Mine.atomE by Mine.atomE_eq
name_quick tw2627984346626558326 for Mine.atomE by Mine.atomE_eq
name_quick tw16350708796919097252 for Mine.atomE by Mine.atomE_eq
name_quick tw5189142188285759775 for Mine.atomE by Mine.atomE_eq
name_quick tw2283851925072248500 for Mine.atomE by Mine.atomE_eq
name_quick tw17954471519018878134 for Mine.atomE by Mine.atomE_eq
name_quick tw4302124980754421698 for Mine.atomE by Mine.atomE_eq
name_quick tw11588390666370768167 for Mine.atomE by Mine.atomE_eq
name_quick tw5529568453561195837 for Mine.atomE by Mine.atomE_eq
name_quick tw17000155066101142889 for Mine.atomE by Mine.atomE_eq
name_quick tw15490439104401381959 for Mine.atomE by Mine.atomE_eq
name_quick tw16643706677886111943 for Mine.atomE by Mine.atomE_eq
name_quick tw10887116778572429059 for Mine.atomE by Mine.atomE_eq
name_quick tw5349121933718820234 for Mine.atomE by Mine.atomE_eq
name_quick tw15980859228951719591 for Mine.atomE by Mine.atomE_eq
name_quick tw17532440430192770315 for Mine.atomE by Mine.atomE_eq
name_quick tw2478078296215019888 for Mine.atomE by Mine.atomE_eq
name_quick tw8206430501311747189 for Mine.atomE by Mine.atomE_eq
name_quick tw3105397867545767578 for Mine.atomE by Mine.atomE_eq
name_quick tw1402947280878808549 for Mine.atomE by Mine.atomE_eq
name_quick tw3976722010076183465 for Mine.atomE by Mine.atomE_eq
name_quick tw17988542015724977305 for Mine.atomE by Mine.atomE_eq
name_quick tw16846860572762119324 for Mine.atomE by Mine.atomE_eq
name_quick tw3972328310683599613 for Mine.atomE by Mine.atomE_eq
name_quick tw5396446701170858492 for Mine.atomE by Mine.atomE_eq
name_quick tw6679490504615227074 for Mine.atomE by Mine.atomE_eq
name_quick tw9763268239775435451 for Mine.atomE by Mine.atomE_eq
name_quick tw14168537005229113720 for Mine.atomE by Mine.atomE_eq
name_quick tw7392212959928792091 for Mine.atomE by Mine.atomE_eq
name_quick tw8693227569615203950 for Mine.atomE by Mine.atomE_eq
name_quick tw8753696776887207221 for Mine.atomE by Mine.atomE_eq
name_quick tw932993149863042379 for Mine.atomE by Mine.atomE_eq
name_quick tw6380047634161181297 for Mine.atomE by Mine.atomE_eq
name_quick tw13678640442995254988 for Mine.atomE by Mine.atomE_eq
name_quick tw1702518465993881591 for Mine.atomE by Mine.atomE_eq
name_quick tw4549333791460862111 for Mine.atomE by Mine.atomE_eq
name_quick tw5268983451555188008 for Mine.atomE by Mine.atomE_eq
name_quick tw17100903815162463580 for Mine.atomE by Mine.atomE_eq
name_quick tw15066959818950650227 for Mine.atomE by Mine.atomE_eq
name_quick tw4090926877573551719 for Mine.atomE by Mine.atomE_eq
name_quick tw13335737130258781183 for Mine.atomE by Mine.atomE_eq
name_quick tw16018607276475445134 for Mine.atomE by Mine.atomE_eq
name_quick tw3152983702415266003 for Mine.atomE by Mine.atomE_eq
name_quick tw10942035263794033107 for Mine.atomE by Mine.atomE_eq
name_quick tw2862820112641550484 for Mine.atomE by Mine.atomE_eq
name_quick tw13254397897704925713 for Mine.atomE by Mine.atomE_eq
name_quick tw7269565832213808900 for Mine.atomE by Mine.atomE_eq
name_quick tw11445135464325071761 for Mine.atomE by Mine.atomE_eq
name_quick tw11788150170368784547 for Mine.atomE by Mine.atomE_eq
name_quick tw12945451867199242903 for Mine.atomE by Mine.atomE_eq
name_quick tw5770868932273138760 for Mine.atomE by Mine.atomE_eq
name_quick tw1962928258387122110 for Mine.atomE by Mine.atomE_eq
name_quick tw5065222861578795731 for Mine.atomE by Mine.atomE_eq
name_quick tw16241802466949684156 for Mine.atomE by Mine.atomE_eq
name_quick tw10996506086634736982 for Mine.atomE by Mine.atomE_eq
name_quick tw2662012632292505752 for Mine.atomE by Mine.atomE_eq
name_quick tw1333364371103165705 for Mine.atomE by Mine.atomE_eq
name_quick tw8603108125212654177 for Mine.atomE by Mine.atomE_eq
name_quick tw1218959903707654005 for Mine.atomE by Mine.atomE_eq
name_quick tw10205541121877940668 for Mine.atomE by Mine.atomE_eq
name_quick tw8703263022893421829 for Mine.atomE by Mine.atomE_eq
name_quick tw6434138532213402376 for Mine.atomE by Mine.atomE_eq
name_quick tw7695134704397734373 for Mine.atomE by Mine.atomE_eq
name_quick tw10833955939284561965 for Mine.atomE by Mine.atomE_eq
name_quick tw9948023125614773506 for Mine.atomE by Mine.atomE_eq
name_quick tw4933834842325187142 for Mine.atomE by Mine.atomE_eq
name_quick tw10938465397075749097 for Mine.atomE by Mine.atomE_eq
name_quick tw17730428716208468724 for Mine.atomE by Mine.atomE_eq
name_quick tw1414301608579184545 for Mine.atomE by Mine.atomE_eq
name_quick tw14223099787259518943 for Mine.atomE by Mine.atomE_eq
name_quick tw17018628822417861297 for Mine.atomE by Mine.atomE_eq
name_quick tw15475462885187679331 for Mine.atomE by Mine.atomE_eq
name_quick tw3636048126100218174 for Mine.atomE by Mine.atomE_eq
name_quick tw5706481520468235054 for Mine.atomE by Mine.atomE_eq
name_quick tw8595292554425487202 for Mine.atomE by Mine.atomE_eq
name_quick tw11985326045990495214 for Mine.atomE by Mine.atomE_eq
name_quick tw6929956602132211858 for Mine.atomE by Mine.atomE_eq
name_quick tw13236226663087606529 for Mine.atomE by Mine.atomE_eq
name_quick tw392140993173905013 for Mine.atomE by Mine.atomE_eq
name_quick tw18056578402003937789 for Mine.atomE by Mine.atomE_eq
name_quick tw8537084889766193716 for Mine.atomE by Mine.atomE_eq
name_quick tw17497748084772794779 for Mine.atomE by Mine.atomE_eq
name_quick tw4071324889030633612 for Mine.atomE by Mine.atomE_eq
name_quick tw3131671291697673992 for Mine.atomE by Mine.atomE_eq
name_quick tw662354867322794072 for Mine.atomE by Mine.atomE_eq
name_quick tw15112985482279097393 for Mine.atomE by Mine.atomE_eq
name_quick tw18340240734955500558 for Mine.atomE by Mine.atomE_eq
name_quick tw4558998842232669794 for Mine.atomE by Mine.atomE_eq
name_quick tw7892128664451923741 for Mine.atomE by Mine.atomE_eq
name_quick tw2039238271031011813 for Mine.atomE by Mine.atomE_eq
name_quick tw13759679279233594173 for Mine.atomE by Mine.atomE_eq
name_quick tw6448080314894763839 for Mine.atomE by Mine.atomE_eq
name_quick tw3421647286062184163 for Mine.atomE by Mine.atomE_eq
name_quick tw4679858250743294509 for Mine.atomE by Mine.atomE_eq
name_quick tw9908251947323293946 for Mine.atomE by Mine.atomE_eq
name_quick tw18345786424863182364 for Mine.atomE by Mine.atomE_eq
name_quick tw9407582987413476825 for Mine.atomE by Mine.atomE_eq
name_quick tw7276740287692124622 for Mine.atomE by Mine.atomE_eq
name_quick tw1092655722715705105 for Mine.atomE by Mine.atomE_eq
name_quick tw11317593695737139937 for Mine.atomE by Mine.atomE_eq
name_quick tw12866136484021002089 for Mine.atomE by Mine.atomE_eq
name_quick tw11420187438672877268 for Mine.atomE by Mine.atomE_eq
name_quick tw7745614565497352828 for Mine.atomE by Mine.atomE_eq
name_quick tw4797165386629745026 for Mine.atomE by Mine.atomE_eq
name_quick tw8727135674562949291 for Mine.atomE by Mine.atomE_eq
name_quick tw2408619945344806742 for Mine.atomE by Mine.atomE_eq
name_quick tw3560238982266916124 for Mine.atomE by Mine.atomE_eq
name_quick tw8424611434330503625 for Mine.atomE by Mine.atomE_eq
name_quick tw13900631225919944168 for Mine.atomE by Mine.atomE_eq
name_quick tw9862997608875712007 for Mine.atomE by Mine.atomE_eq
name_quick tw8376441433122354887 for Mine.atomE by Mine.atomE_eq
name_quick tw4980102563643897964 for Mine.atomE by Mine.atomE_eq
name_quick tw15894407043143930727 for Mine.atomE by Mine.atomE_eq
name_quick tw11729385059970357855 for Mine.atomE by Mine.atomE_eq
name_quick tw10227693086864044499 for Mine.atomE by Mine.atomE_eq
name_quick tw6245536207120538393 for Mine.atomE by Mine.atomE_eq
name_quick tw16414604833108395602 for Mine.atomE by Mine.atomE_eq
name_quick tw16349804527192203551 for Mine.atomE by Mine.atomE_eq
name_quick tw5200128776193632040 for Mine.atomE by Mine.atomE_eq
name_quick tw1377046205977697930 for Mine.atomE by Mine.atomE_eq
name_quick tw9564595351457756722 for Mine.atomE by Mine.atomE_eq
name_quick tw17000458434675057986 for Mine.atomE by Mine.atomE_eq
name_quick tw2719445374943340272 for Mine.atomE by Mine.atomE_eq
name_quick tw16049961110935095269 for Mine.atomE by Mine.atomE_eq
name_quick tw9467589175468403638 for Mine.atomE by Mine.atomE_eq
name_quick tw117213463901210413 for Mine.atomE by Mine.atomE_eq
name_quick tw15742981410569661332 for Mine.atomE by Mine.atomE_eq
name_quick tw4775785305629353868 for Mine.atomE by Mine.atomE_eq
name_quick tw5902227825499142635 for Mine.atomE by Mine.atomE_eq
name_quick tw3764465048917985505 for Mine.atomE by Mine.atomE_eq
name_quick tw17279654841073493023 for Mine.atomE by Mine.atomE_eq
name_quick tw11566699232636054958 for Mine.atomE by Mine.atomE_eq
name_quick tw10424941004445345732 for Mine.atomE by Mine.atomE_eq
name_quick tw13512673800721320934 for Mine.atomE by Mine.atomE_eq
set_option maxRecDepth 100000 in
set_option maxHeartbeats 8000000 in
open_top hd for PySem.Challenge.rw_nm0006_01
set_option maxRecDepth 100000
set_option maxHeartbeats 8000000

abbrev Led := List (Addr × Obj)
abbrev Off (d : Addr) (l : Led) : Prop := ∀ p ∈ l, p.1 ≠ d
def Sub (a b : Led) : Prop := ∀ p ∈ a, p ∈ b
/-- rest' is rest and newer things: what was off it stays off it for the 'cells' -/
def Grow (cells : List Addr) (rest rest' : Led) : Prop := Sub rest rest' ∧ ∀ c ∈ cells, Off c rest → Off c rest'
theorem Grow.mem {c : List Addr} {a b : Led} {p : Addr × Obj} (h : Grow c a b) (hp : p ∈ a) : p ∈ b := h.1 p hp
theorem Grow.sub {c : List Addr} {a b : Led} (h : Grow c a b) : Sub a b := h.1
theorem Grow.refl {c : List Addr} {a : Led} : Grow c a a := ⟨fun _ h => h, fun _ _ h => h⟩
theorem fa_cons {α : Type} {P : α → Prop} {a : α} {l : List α} (h : P a) (t : ∀ p ∈ l, P p) : ∀ p ∈ a :: l, P p := List.forall_mem_cons.mpr ⟨h, t⟩
theorem fa_app {α : Type} {P : α → Prop} {a b : List α} (h : ∀ p ∈ a, P p) (t : ∀ p ∈ b, P p) : ∀ p ∈ a ++ b, P p := fun p hp => (List.mem_append.mp hp).elim (h p) (t p)
theorem fa_self {α : Type} {a : List α} : ∀ p ∈ a, p ∈ a := fun _ h => h
theorem fa_nil {α : Type} {P : α → Prop} : ∀ p ∈ ([] : List α), P p := nofun
theorem fa_tail {α : Type} {a l : List α} {x : α} (h : ∀ p ∈ a, p ∈ l) : ∀ p ∈ a, p ∈ x :: l := fun p hp => .tail _ (h p hp)
theorem fa_left {α : Type} {a l r : List α} (h : ∀ p ∈ a, p ∈ l) : ∀ p ∈ a, p ∈ l ++ r := fun p hp => List.mem_append_left _ (h p hp)
theorem fa_right {α : Type} {a l r : List α} (h : ∀ p ∈ a, p ∈ r) : ∀ p ∈ a, p ∈ l ++ r := fun p hp => List.mem_append_right _ (h p hp)
theorem Off.app {d : Addr} {a b : Led} (h : Off d a) (h' : Off d b) : Off d (a ++ b) := fun p hp => (List.mem_append.mp hp).elim (h p) (h' p)
theorem Off.left {d : Addr} {a b : Led} (h : Off d (a ++ b)) : Off d a := fun p hp => h p (List.mem_append_left _ hp)
theorem Off.right {d : Addr} {a b : Led} (h : Off d (a ++ b)) : Off d b := fun p hp => h p (List.mem_append_right _ hp)
theorem Grow.off {c : List Addr} {a b ex : Led} {d : Addr} (h : Grow c a b) (hd : d ∈ c) (ho : Off d (ex ++ a)) : Off d (ex ++ b) := ho.left.app (h.2 d hd ho.right)
theorem Grow.trans {c c' : List Addr} {a b d : Led} (h : Grow c a b) (h' : Grow c' b d) (hc : ∀ x ∈ c, x ∈ c') : Grow c a d :=
  ⟨fun p hp => h'.1 p (h.1 p hp), fun x hx ho => h'.2 x (hc x hx) (h.2 x hx ho)⟩
theorem Grow.transR {c c' : List Addr} {a b d : Led} (h' : Grow c' b d) (hc : ∀ x ∈ c, x ∈ c') (h : Grow c a b) : Grow c a d := h.trans h' hc
theorem Grow.less {c c' : List Addr} {a b : Led} (h : Grow c' a b) (hc : ∀ x ∈ c, x ∈ c') : Grow c a b := ⟨h.1, fun x hx => h.2 x (hc x hx)⟩
/-- one more object, none of the cells -/
theorem Grow.add {c : List Addr} {a b : Led} {x : Addr} {o : Obj} (h : Grow c a b) (hc : ∀ y ∈ c, x ≠ y) : Grow c a ((x, o) :: b) :=
  ⟨fun p hp => List.mem_cons_of_mem _ (h.1 p hp), fun y hy ho p hp => by
    rcases List.mem_cons.mp hp with rfl | hp
    · exact hc y hy
    · exact h.2 y hy ho p hp⟩
theorem allLt_mem {d : Addr} : ∀ {l : Led}, AllLt d l → ∀ p ∈ l, p.1 < d
  | [], _, _, hp => nomatch hp
  | q :: r, h, p, hp => by
    rcases List.mem_cons.mp hp with rfl | hp
    · exact h.1
    · exact allLt_mem h.2 p hp
theorem allLt_cells {d : Addr} : ∀ {l r : Led}, AllLt d (l ++ r) → ∀ y ∈ l.map (·.1), d ≠ y := fun h y hy => by
  obtain ⟨q, hq, rfl⟩ := List.mem_map.mp hy
  exact Nat.ne_of_gt (allLt_mem h q (List.mem_append_left _ hq))
theorem allLt_off {d : Addr} {l : Led} (h : AllLt d l) : Off d l := fun p hp => Nat.ne_of_lt (allLt_mem h p hp)

/-- a written front, then the letters ex ++ rest -/
inductive Rst (ex rest : Led) : Led → Led → Prop
  | nil : Rst ex rest (ex ++ rest) []
  | cons {p r fr} : Rst ex rest r fr → Rst ex rest (p :: r) (p :: fr)
inductive Pick (d : Addr) (o : Obj) (ex rest : Led) : Led → Led → Prop
  | head {r fr} : Rst ex rest r fr → Pick d o ex rest ((d, o) :: r) fr
  | tail {p r fr} : Pick d o ex rest r fr → Pick d o ex rest (p :: r) (p :: fr)
theorem Rst.eq {r fr ex rest : Led} (h : Rst ex rest r fr) : r = fr ++ (ex ++ rest) := by
  induction h with
  | nil => rfl
  | cons _ ih => rw [ih]; rfl
theorem Pick.mem {d : Addr} {o : Obj} {news fr ex rest : Led} (P : Pick d o ex rest news fr) : ∀ p, p ∈ (d, o) :: ((fr ++ ex) ++ rest) ↔ p ∈ news := by
  induction P with
  | head h => intro p; rw [h.eq, List.append_assoc]
  | tail _ ih =>
    intro p
    have ih := ih p
    simp only [List.cons_append, List.mem_cons] at ih ⊢
    rw [← ih]
    constructor
    · rintro (h | h | h)
      · exact .inr (.inl h)
      · exact .inl h
      · exact .inr (.inr h)
    · rintro (h | h | h)
      · exact .inr (.inl h)
      · exact .inl h
      · exact .inr (.inr h)
theorem News.sub' {h₀ h : Heap} {L : Addr} {a b : Led} (N : News h₀ L h b) (hs : ∀ p ∈ a, p ∈ b) : News h₀ L h a := fun p hp => N p (hs p hp)

theorem News.finish {h₀ h : Heap} {L wa : Addr} {o : Obj} {news fr ex r : Led} (N : News h₀ L h news) (P : Pick wa o ex r news fr) : News h₀ L h ((wa, o) :: (ex ++ (fr ++ r))) :=
  News.sub' N fun p hp => (P.mem p).mp (by
    simp only [List.mem_cons, List.mem_append] at hp ⊢
    rcases hp with h | h | h | h
    · exact .inl h
    · exact .inr (.inl (.inr h))
    · exact .inr (.inl (.inl h))
    · exact .inr (.inr h))
theorem room1 {d b c L : Nat} (h : d + b < L) (e : c ≤ b) : d + c < L := by omega
theorem room2 {d k b c L : Nat} (h : d + b < L) (e : k + c ≤ b) : d + k + c < L := by omega
theorem room3 {d k k' b c L : Nat} (h : d + b < L) (e : k + k' + c ≤ b) : d + k + k' + c < L := by omega
theorem cellsNe {wa x : Addr} {ex r : Led} (h1 : @LT.lt Nat _ wa x) (h2 : AllLt x (ex ++ r)) : ∀ y ∈ wa :: ex.map (·.1), x ≠ y := fun y hy => by
  rcases List.mem_cons.mp hy with rfl | hy
  · exact Nat.ne_of_gt h1
  · exact allLt_cells h2 y hy
theorem cellsOff {wa x : Addr} {ex r : Led} (h1 : @Ne Nat wa x) (h2 : Off x (ex ++ r)) : ∀ y ∈ wa :: ex.map (·.1), x ≠ y := fun y hy => by
  rcases List.mem_cons.mp hy with rfl | hy
  · exact Ne.symm h1
  · obtain ⟨q, hq, rfl⟩ := List.mem_map.mp hy
    exact Ne.symm (h2 q (List.mem_append_left _ hq))
theorem off1_off {D : Addr} : ∀ {l : Led}, LCg.Off1 D l → Off D l
  | [], _, _, hp => nomatch hp
  | _ :: _, x, p, hp => by
    rcases List.mem_cons.mp hp with rfl | hp
    · exact x.1
    · exact off1_off x.2 p hp
theorem AllLt.up {a b : Addr} (h : @LT.lt Nat _ a b) : ∀ {l : Led}, AllLt a l → AllLt b l
  | [], _ => trivial
  | _ :: _, x => ⟨Nat.lt_trans x.1 h, AllLt.up h x.2⟩

def Hold (P : Prop) : Prop := P
theorem hold {P : Prop} (h : Hold P) : P := h
/-- two lists, item by item -/
inductive All2 {α β : Type} (R : α → β → Prop) : List α → List β → Prop
  | nil : All2 R [] []
  | cons {a b l l'} : R a b → All2 R l l' → All2 R (a :: l) (b :: l')
theorem All2.imp {α β : Type} {R R' : α → β → Prop} (h : ∀ a b, R a b → R' a b) : ∀ {l l'}, All2 R l l' → All2 R' l l'
  | _, _, .nil => .nil
  | _, _, .cons x y => .cons (h _ _ x) (y.imp h)
theorem All2.length {α β : Type} {R : α → β → Prop} : ∀ {l : List α} {l' : List β}, All2 R l l' → l.length = l'.length
  | _, _, .nil => rfl
  | _, _, .cons _ y => by rw [List.length_cons, List.length_cons, y.length]
theorem All2.snoc {α β : Type} {R : α → β → Prop} {a : α} {b : β} : ∀ {l : List α} {l' : List β}, All2 R l l' → R a b → All2 R (l ++ [a]) (l' ++ [b])
  | _, _, .nil, h => .cons h .nil
  | _, _, .cons x y, h => .cons x (y.snoc h)
theorem All2.get {α β : Type} {R : α → β → Prop} : ∀ {l : List α} {l' : List β}, All2 R l l' → ∀ {i : Nat} {a : α}, l[i]? = some a → ∃ b, l'[i]? = some b ∧ R a b
  | _, _, .nil, i, a, h => by simp at h
  | _, _, .cons x y, 0, a, h => ⟨_, rfl, by simp at h; exact h ▸ x⟩
  | _, _, .cons x y, i + 1, a, h => y.get (i := i) (by simpa using h)

/-- an operand -/
inductive Opd where
  | r (i : Int)
  | k (i : Int)
abbrev tup (l : List Value) : Obj := { cls := .type "tuple", data := .seq l.toArray }
inductive OpdAt (rest : Led) : Value → Opd → Prop
  | r {a : Addr} {i : Int} {t ti : Tok} : 0 ≤ i → i < 6 → (a, ({ cls := .type "tuple", data := .seq #[.str (Str.ofString "r") t, .int i ti] } : Obj)) ∈ rest → OpdAt rest (.ref a) (.r i)
  | k {a : Addr} {i : Int} {t ti : Tok} : (a, ({ cls := .type "tuple", data := .seq #[.str (Str.ofString "k") t, .int i ti] } : Obj)) ∈ rest → OpdAt rest (.ref a) (.k i)
theorem OpdAt.mono {rest rest' : Led} (hs : Sub rest rest') {v : Value} {d : Opd} (h : OpdAt rest v d) : OpdAt rest' v d := by
  cases h with
  | r a b c => exact .r a b (hs _ c)
  | k c => exact .k (hs _ c)
def ArgsAt (rest : Led) (v : Value) (ds : List Opd) : Prop := ∃ al vs n, v = .ref al ∧ (al, listOf (List.toArray vs) n) ∈ rest ∧ All2 (OpdAt rest) vs ds
theorem ArgsAt.mono {rest rest' : Led} (hs : Sub rest rest') {v : Value} {d : List Opd} (h : ArgsAt rest v d) : ArgsAt rest' v d := by
  obtain ⟨al, vs, n, h1, h2, h3⟩ := h
  exact ⟨al, vs, n, h1, hs _ h2, h3.imp fun _ _ => OpdAt.mono hs⟩

/-- a step -/
inductive Kind where
  | const | add | slot | load | store | call | callreg | give
def Kind.str : Kind → Str
  | .const => Str.ofString "const"
  | .add => Str.ofString "add"
  | .slot => Str.ofString "slot"
  | .load => Str.ofString "load"
  | .store => Str.ofString "store"
  | .call => Str.ofString "call"
  | .callreg => Str.ofString "callreg"
  | .give => Str.ofString "give"
structure StepD where
  kind : Kind
  dst : Int
  args : List Opd
  more : Int
abbrev stepDict (h1 h2 h3 h4 h5 h6 : Int) (t1 t2 t3 t4 t5 t6 t7 : Tok) (a b c d : Value) : Obj :=
  dictOf [⟨h1, .str (Str.ofString "op") t1, a⟩, ⟨h2, .str (Str.ofString "dst") t2, b⟩, ⟨h3, .str (Str.ofString "args") t3, c⟩, ⟨h4, .str (Str.ofString "more") t4, d⟩, ⟨h5, .str (Str.ofString "is_volatile") t5, .bool false⟩, ⟨h6, .str (Str.ofString "line") t6, .int 0 t7⟩] 6
inductive StepAt (rest : Led) : Value → StepD → Prop
  | mk {x dx al : Addr} {h1 h2 h3 h4 h5 h6 : Int} {t1 t2 t3 t4 t5 t6 t7 to td : Tok} {vm : Value} {d : StepD} {vs : List Value} {n : Nat} (hx : (x, instObj 80 dx) ∈ rest)
      (hd : (dx, stepDict h1 h2 h3 h4 h5 h6 t1 t2 t3 t4 t5 t6 t7 (.str d.kind.str to) (.int d.dst td) (.ref al) vm) ∈ rest) (ha : (al, listOf (List.toArray vs) n) ∈ rest) (h2 : All2 (OpdAt rest) vs d.args)
      (hm : d.kind = .slot → ∃ t, vm = .int d.more t) : StepAt rest (.ref x) d
theorem StepAt.mono {rest rest' : Led} (hs : Sub rest rest') {v : Value} {d : StepD} (h : StepAt rest v d) : StepAt rest' v d := by
  cases h with | mk a b c e f => exact .mk (hs _ a) (hs _ b) (hs _ c) (e.imp fun _ _ => OpdAt.mono hs) f
def StepOk (d : StepD) : Prop := (-1 ≤ d.dst ∧ d.dst < 6) ∧ ((d.kind = .load ∨ d.kind = .store) → d.args ≠ []) ∧ (d.kind = .slot → 0 ≤ d.dst ∧ 0 ≤ d.more) ∧ d.args.length ≤ 13 ∧ (d.kind = .give → d.dst = -1)

def StepOut (n : Nat) (rest : Led) (r : Value) : Prop := ∃ d, StepAt rest r d ∧ StepOk d ∧ (d.kind = .slot → d.more < n) ∧ d.kind ≠ .give
theorem stepOut {n : Nat} {rest : Led} {x dx : Addr} {h1 h2 h3 h4 h5 h6 : Int} {t1 t2 t3 t4 t5 t6 t7 to td : Tok} {va vm : Value} {dst : Int} {ds : List Opd} (k : Kind) (hx : (x, instObj 80 dx) ∈ rest)
    (hd : (dx, stepDict h1 h2 h3 h4 h5 h6 t1 t2 t3 t4 t5 t6 t7 (.str k.str to) (.int dst td) va vm) ∈ rest) (ha : ArgsAt rest va ds) (h1 : -1 ≤ dst) (h2 : dst < 6)
    (h3 : (k ≠ .load ∧ k ≠ .store) ∨ 1 ≤ (ds.length : Int)) (h4 : k ≠ .slot ∧ k ≠ .give) (h5 : (ds.length : Int) ≤ 13) : StepOut n rest (.ref x) := by
  obtain ⟨al, vs, e, rfl, hal, h2a⟩ := ha
  exact ⟨⟨k, dst, ds, 0⟩, .mk hx hd hal h2a fun h => absurd h h4.1,
    ⟨⟨h1, h2⟩, fun h e => by
      rcases h3 with h3 | h3
      · rcases h with h | h
        · exact h3.1 h
        · exact h3.2 h
      · subst e; simp at h3, fun h => absurd h h4.1, by show ds.length ≤ 13; omega, fun h => absurd h h4.2⟩, fun h => absurd h h4.1, h4.2⟩
theorem stepOut_slot {n i : Nat} {rest : Led} {x dx al : Addr} {ep : Nat} {h1 h2 h3 h4 h5 h6 : Int} {t1 t2 t3 t4 t5 t6 t7 to td tm : Tok} {dst : Int} (hx : (x, instObj 80 dx) ∈ rest)
    (hd : (dx, stepDict h1 h2 h3 h4 h5 h6 t1 t2 t3 t4 t5 t6 t7 (.str (Str.ofString "slot") to) (.int dst td) (.ref al) (.int i tm)) ∈ rest) (ha : (al, listOf #[] ep) ∈ rest) (h1 : 0 ≤ dst) (h2 : dst < 6) (h3 : (i : Int) < n) : StepOut n rest (.ref x) :=
  ⟨⟨.slot, dst, [], i⟩, .mk (vs := []) hx hd ha .nil fun _ => ⟨_, rfl⟩,
    ⟨⟨by show -1 ≤ dst; omega, h2⟩, (fun h => by rcases h with h | h <;> cases h), fun _ => ⟨h1, by show (0 : Int) ≤ (i : Int); omega⟩, Nat.zero_le _, nofun⟩, fun _ => h3, nofun⟩

def WellObj (nm : Addr) (b : Int) (o : Obj) : Prop :=
  ∃ at' st t1 t2 n, o = listOf #[.ref nm, .int at' t1, .int st t2] n ∧ 0 ≤ at' ∧ at' ≤ b ∧ 0 ≤ st ∧ st < 2147483647
def NumsAt (nm : Addr) (rest : Led) : Prop := ∃ vs ns n', (nm, listOf (List.toArray vs) n') ∈ rest ∧ IntsAre vs ns ∧ vs.length ≤ 63
theorem NumsAt.mono {nm : Addr} {rest rest' : Led} (h : NumsAt nm rest) (hs : Sub rest rest') : NumsAt nm rest' := by
  obtain ⟨vs, ns, n', h1, h2⟩ := h
  exact ⟨vs, ns, n', hs _ h1, h2⟩
theorem NumsAt.grow {c : List Addr} {nm : Addr} {rest rest' : Led} (G : Grow c rest rest') (h : NumsAt nm rest) : NumsAt nm rest' := h.mono G.1
theorem WellObj.le {nm : Addr} {b b' : Int} {o : Obj} (h : WellObj nm b o) (hb : b ≤ b') : WellObj nm b' o := by
  obtain ⟨at', st, t1, t2, n, h1, h2, h3, h4⟩ := h
  exact ⟨at', st, t1, t2, n, h1, h2, Int.le_trans h3 hb, h4⟩

/-- a def that draws from the well: f's address, draws at most, frames, what is asked of the ledger, the arguments, what comes back -/
def DrawSpec (w : World) (f : Addr) (k : Int) (D : Nat) (Pre : Led → Prop) (mk : Value → List Value) (Out : Led → Value → Prop) : Prop :=
  ∀ (dp un : Nat) (gd : Option (List Code)) (cn : Str) (cs : Scope) (a : Addr) (ccd : Value) (cl : List (Str × Addr)) (outer : List Env) (A₀ : Around) (base h₀ : Heap) (L : Addr) (m : Str → Option Value)
    (mean : ExcName → Option Value) (mg mb : Str → Option Value) (wa nm : Addr) (o : Obj) (b : Int) (ex rest : Led) (s : Shared) (Q E : Value → Shared → Prop),
    Below A₀ base outer h₀ → Fr h₀ L s.heap m → (Mine.hd.heap_39 w.params).In h₀ → News h₀ L s.heap ((wa, o) :: (ex ++ rest)) → Off wa (ex ++ rest) →
    Top Mine.hd.view_39 (looseW Mine.hd.view_39 [Str.ofString "ACCESSES"]) mean mg mb h₀ → cs.kind = .function → WellObj nm b o → NumsAt nm rest → Pre rest → b + k ≤ 10000 → dp + D < recursionLimit → un + 20 * D < cLine →
    (∀ r rest' o' h' tk', Fr h₀ L h' m → News h₀ L h' ((wa, o') :: (ex ++ rest')) → Grow (wa :: ex.map (·.1)) rest rest' → WellObj nm (b + k) o' → Out rest' r → Q r { s with heap := h', toks := tk' }) →
    wpAny (model PySem.Challenge.rw_nm0006_01.row.prog w) (ktrTop dp un gd cn cs L a ccd cl outer) (call (.ref f) (mk (.ref wa))) Q E s

/-- its use in a caller whose ledger has a written front 'fr' besides -/
theorem DrawSpec.use {w : World} {f : Addr} {k : Int} {D : Nat} {Pre : Led → Prop} {mk : Value → List Value} {Out : Led → Value → Prop}
    {dp un : Nat} {gd : Option (List Code)} {cn : Str} {cs : Scope} {a : Addr} {ccd : Value} {cl : List (Str × Addr)} {outer : List Env} {A₀ : Around} {base h₀ : Heap} {L : Addr} {m : Str → Option Value}
    {mean : ExcName → Option Value} {mg mb : Str → Option Value} {wa nm : Addr} {o : Obj} {b : Int} {news fr ex rest : Led} {s : Shared} {Q E : Value → Shared → Prop}
    (C : DrawSpec w f k D Pre mk Out)
    (B : Below A₀ base outer h₀) (F : Fr h₀ L s.heap m) (X : (Mine.hd.heap_39 w.params).In h₀) (N : News h₀ L s.heap news) (P : Pick wa o ex rest news fr) (hoff : Off wa (fr ++ (ex ++ rest)))
    (T : Top Mine.hd.view_39 (looseW Mine.hd.view_39 [Str.ofString "ACCESSES"]) mean mg mb h₀) (hk : cs.kind = .function) (W : WellObj nm b o) (I : NumsAt nm rest) (hpre : Pre rest) (hb : b + k ≤ 10000) (hd : dp + D < recursionLimit) (hu : un + 20 * D < cLine)
    (ret : ∀ r rest' o' h' tk', Fr h₀ L h' m → News h₀ L h' ((wa, o') :: (fr ++ (ex ++ rest'))) → Grow (wa :: (fr ++ ex).map (·.1)) rest rest' → Off wa (ex ++ rest') → WellObj nm (b + k) o' → NumsAt nm rest' → Out rest' r → Q r { s with heap := h', toks := tk' }) :
    wpAny (model PySem.Challenge.rw_nm0006_01.row.prog w) (ktrTop dp un gd cn cs L a ccd cl outer) (call (.ref f) (mk (.ref wa))) Q E s := by
  have hoff' : Off wa (fr ++ ex ++ rest) := by rw [List.append_assoc]; exact hoff
  refine C _ _ _ _ _ _ _ _ _ _ _ _ _ _ _ _ _ _ _ _ _ (fr ++ ex) rest _ _ _ B F X (News.sub' N fun p hp => (P.mem p).mp hp) hoff' T hk W I hpre hb hd hu ?_
  rintro r rest' o' h' tk' F' N' G W' ho
  rw [List.append_assoc] at N'
  exact ret r _ o' h' tk' F' N' G (hoff.right.left.app (G.2 wa (.head _) hoff.right.right)) W' (I.mono G.1) ho
theorem m_fmod {a b : Int} (h : 0 < b) : 0 ≤ a.fmod b ∧ a.fmod b < b := ⟨Int.fmod_nonneg_of_pos a h, Int.fmod_lt_of_pos a h⟩

theorem m_fmodN {a b : Int} {t : Tok} (h : 0 < b) : ∃ (i : Nat) (t' : Tok), Value.int (a.fmod b) t = .int (i : Int) t' ∧ (i : Int) < b :=
  ⟨(a.fmod b).toNat, t, by rw [Int.toNat_of_nonneg (m_fmod h).1], by rw [Int.toNat_of_nonneg (m_fmod h).1]; exact (m_fmod h).2⟩

section
variable {prog : Program} {w : World} {A : Around} {E : Value → Shared → Prop} {s : Shared} {h₀ : Heap} {L l : Addr} {m : Str → Option Value} {news : Led} {vs : List Value} {n : Nat}
theorem isList_led (N : News h₀ L s.heap news) (hm : (l, listOf vs.toArray n) ∈ news) : s.heap.IsList l vs.toArray := PySem.IsL.isList (n := n) (N _ hm).1
theorem m_len {Q : Value → Shared → Prop} (N : News h₀ L s.heap news) (hm : (l, listOf vs.toArray n) ∈ news) (hf : vs.length ≤ 10000) (h : ∀ t t', Q (.int (vs.length : Nat) t) { s with toks := t' }) : wpAny (model prog w) A (call (.builtin "len") [.ref l]) Q E s :=
  len_list (isList_led N hm) (by simp; omega) (by simpa using h _ _)
theorem m_itemI {value slice : Expr} {ns : List Int} {k : Int} {u : Tok} {Q : Value → Shared → Prop} (N : News h₀ L s.heap news) (hm : (l, listOf vs.toArray n) ∈ news) (hI : IntsAre vs ns) (h0 : 0 ≤ k) (h1 : k < (vs.length : Nat)) (hfit : k < 2 ^ 63)
    (h : ∀ x t, Q (.int x t) s)
    (hs : subscripted slice false (.ref l) (.int k u) = operate [.ref l, .int k u] (getItem (.ref l) (.int k u)) := by with_unfolding_all rfl) (hg : ∀ r, letTemporaryGo value (.ref l) r = pure () := by intro _; with_unfolding_all rfl) :
    wpAny (model prog w) A (subscriptTail value slice (.ref l) (.int k u)) Q E s := by
  have hl := hI.length
  have hk : k.toNat < ns.length := by omega
  obtain ⟨t, ht⟩ := hI.get k.toNat ns[k.toNat] (List.getElem?_eq_getElem hk)
  exact item_listL (isList_led N hm) h0 hfit ht (h _ _) hs hg
end

section
variable {prog : Program} {w : World} {A : Around} {s : Shared} {h₀ : Heap} {L : Addr} {m : Str → Option Value} {env : Env}
theorem compEnd_mono {s₁ : Shared} {I C D : Addr} {oI oC oD : Obj} {S : Led → Prop} {r r' : Value → Led → Prop} {y : Value} {s₂ : Shared} (h : LCg.CompEnd h₀ L m s₁ I oI C oC D oD S r y s₂) (hr : ∀ y l, r y l → r' y l) :
    LCg.CompEnd h₀ L m s₁ I oI C oC D oD S r' y s₂ := by
  obtain ⟨h', tk, nw, h1, h2, h3, h4, h5, h6⟩ := h
  exact ⟨h', tk, nw, h1, h2, h3, h4, h5, hr _ _ h6⟩
/-- a comprehension by what holds between its turns -/
theorem comp_inv {elt : Expr} {x : Str} {scope : Scope} {cl : List (Str × Addr)} {S : Led → Prop} {P : Nat → Value → Prop} {Fin : List Value → Led → Prop} {n : Nat} (J : Nat → List Value → Led → Prop)
    (turn : ∀ i v ys news I oI C oC D m₂ h tk (E' : Value → Shared → Prop), i < n → P i v → J i ys news → LCg.NsObj oC m₂ → m₂ x = some v → Fr h₀ L h m → News h₀ L h ((I, oI) :: (C, oC) :: (D, LCg.lst ys) :: news) → LCg.Off3 I C D news → ((@Ne Nat I C) ∧ (@Ne Nat I D) ∧ (@Ne Nat C D)) →
      wpAny (model prog w) A (eval elt (compEnvC scope cl C env)) (LCg.CompEnd h₀ L m { s with heap := h, toks := tk } I oI C oC D (LCg.lst ys) S (fun y news' => J (i + 1) (ys ++ [y]) news')) E' { s with heap := h, toks := tk })
    (fin : ∀ ys news, J n ys news → Fin ys news) : ∀ k i ys news, i + k = n → J i ys news → LCg.CompRest prog w A h₀ L m env elt x scope cl s S P Fin k i ys news := by
  intro k
  induction k with
  | zero =>
    intro i ys news h hJ
    have hi : i = n := by omega
    subst hi
    exact fin _ _ hJ
  | succ k ih =>
    intro i ys news h hJ
    refine LCg.CompRest.succ ?_
    intro v I oI C oC D m₂ hp tk E' hP hC hx F N off ne
    exact wpAny_mono (turn i v ys news I oI C oC D m₂ hp tk E' (by omega) hP hJ hC hx F N off ne) (fun y s₂ h₂ => compEnd_mono h₂ fun y l hj => ih (i + 1) _ _ (by omega) hj) fun _ _ e => e
theorem compSrc_range0 {elt : Expr} {x : Str} {scope : Scope} {cl : List (Str × Addr)} {Fin : Shared → List Value → Led → Prop} {r : Addr} {t u v : Tok} {n : Nat} {news : Led} {s₁ : Shared}
    (hh : A.handled = none) (F : Fr h₀ L s₁.heap m) (N : News h₀ L s₁.heap news) (hr : IsRange s₁.heap r 0 (n : Int) 1 t u v) (hn : n ≤ 1000)
    (h : ∀ g, LCg.CompRest prog w A h₀ L m env elt x scope cl { s₁ with heap := g } (fun _ => True) (fun i v => ∃ t, v = .int (0 + (i : Int)) t) (Fin { s₁ with heap := g }) n 0 [] news) :
    LCg.CompSrc prog w A h₀ L m env elt x scope cl Fin (.ref r) s₁ :=
  LCg.CompSrc.range hh F N hr (small_one (by omega) (by omega) (by omega) (by omega)) (by unfold Builtin.Range.rangeSize; simp only [Int.ediv_one]; split <;> (try split) <;> omega) (by rw [sizeLine_eq]; omega) h
theorem off3_iff {I C D : Addr} {l : Led} : LCg.Off3 I C D l ↔ Off I l ∧ Off C l ∧ Off D l :=
  ⟨fun h => ⟨fun p hp => (h.mem p hp).1, fun p hp => (h.mem p hp).2.1, fun p hp => (h.mem p hp).2.2⟩, fun h => LCg.Off3.of fun p hp => ⟨h.1 p hp, h.2.1 p hp, h.2.2 p hp⟩⟩
theorem off_cons {d : Addr} {p : Addr × Obj} {l : Led} : Off d (p :: l) ↔ (@Ne Nat p.1 d) ∧ Off d l := List.forall_mem_cons
end
local macro_rules | `(tactic| walk_at $s:str) => `(tactic| k_extra $s)
local macro_rules | `(tactic| walk_at "m_kF") => `(tactic| (with_reducible rename Fr _ _ _ _ => kF))
local macro_rules | `(tactic| k_mem) => `(tactic| ((fail_if_success (with_reducible show _ ∈ (_ :: _))); (fail_if_success (with_reducible show List.Mem _ (_ :: _))); refine (List.mem_append_left _ ?_ : _ ∈ (_ ++ _)); assumption))
local macro_rules | `(tactic| k_all) => `(tactic| ((with_reducible show ∀ p ∈ (_ ++ _), _); exact allLt_off (by k_extra "m_al")))
local macro_rules | `(tactic| k_mem) => `(tactic| ((fail_if_success (with_reducible show _ ∈ (_ :: _))); (fail_if_success (with_reducible show List.Mem _ (_ :: _))); refine (List.mem_append_right _ ?_ : _ ∈ (_ ++ _)); k_mem))
local macro_rules | `(tactic| k_mem) => `(tactic| ((fail_if_success (with_reducible show _ ∈ (_ :: _))); (fail_if_success (with_reducible show List.Mem _ (_ :: _))); refine Grow.mem (by assumption) ?_; k_mem))
local macro_rules | `(tactic| k_mem) => `(tactic| ((fail_if_success (with_reducible show _ ∈ (_ :: _))); (fail_if_success (with_reducible show List.Mem _ (_ :: _))); assumption))
local macro_rules | `(tactic| k_all) => `(tactic| ((with_reducible show ∀ p ∈ (_ ++ _), _); refine Grow.off (by assumption) (by simp only [List.map_append, List.map_cons, List.cons_append, List.nil_append, List.mem_cons, List.map_nil, true_or, or_true]) ?_; k_all))
local macro_rules | `(tactic| k_all) => `(tactic| ((fail_if_success (with_reducible show ∀ p ∈ (_ :: _), _)); assumption))
local macro_rules | `(tactic| walk_at "m_enterC") => `(tactic| (refine' code_defC ?k1 ?k2 ?k3 ?k4 ?k5 ?kA ?kF ?kK ?k6 ?k7 ?k8 ?k9 ?kB ?kD ?_ ?c2 ?c3 ?c4; (case kA => exact rfl); (case kF => exact rfl); (case kK => assumption); (case k1 => k_asm); (case k2 => k_asm); (case k3 => k_asm); (case k4 => k_asm); (case k5 => k_asm); (case k6 => k_is); (case k7 => k_is); (case k8 => ktr_room); (case k9 => exact BindsTo.of_eq rfl); (case kB => exact rfl); (case kD => decide +kernel); (case c2 => exact rfl); (case c3 => exact rfl); (case c4 => exact rfl); k_whole; intro g' L' h' tk' cells' FG' F' N' Y' B' X' T' l1; (try k_lt l1); k_cells Y'; (try simp only [List.cons_append, List.nil_append] at N'); (try dsimp only); (try k_fold)))
local macro_rules | `(tactic| k_ne) => `(tactic| (refine neN ?_; (try dsimp only); k_extra "m_ne"))
local macro_rules | `(tactic| ktr_room) => `(tactic| k_extra "m_rm")
local macro_rules | `(tactic| ktr_units) => `(tactic| k_extra "m_rm")
section
section
theorem draw (w : World) (sz : Int) (t : Tok) (h1 : 1 ≤ sz) (h2 : sz ≤ 100) : DrawSpec w 169 1 2 (fun _ => True) (fun v => [v, .int sz t]) (fun _ r => ∃ (i : Nat) (t' : Tok), r = .int (i : Int) t' ∧ (i : Int) < sz) := by
  w_top off
  k_with_none
  k_with "m_rst" => first | (with_reducible apply Rst.nil) | (with_reducible apply Rst.cons; k_extra "m_rst")
  k_with "m_pick" => first | (with_reducible apply Pick.head; k_extra "m_rst") | (with_reducible apply Pick.tail; k_extra "m_pick")
  k_with "m_draw" => (
  (case N => k_asm); (case P => k_extra "m_pick"); (case B => k_asm); (case F => k_asm); (case X => k_asm);
  (case off => ((try simp only [List.nil_append, List.cons_append]); k_all)); (case T => k_asm); (case k => first | exact rfl | assumption); (case W => assumption); (case I => assumption);
  (case b => omega); (case d => ktr_room); (case u => ktr_units))
  k_with "m_al" => first | assumption | exact And.right (by assumption) | exact And.right (And.right (by assumption)) | exact And.right (And.right (And.right (by assumption))) | exact And.right (And.right (And.right (And.right (by assumption)))) | exact And.right (And.right (And.right (And.right (And.right (by assumption))))) | exact And.right (And.right (And.right (And.right (And.right (And.right (by assumption)))))) | exact And.right (And.right (And.right (And.right (And.right (And.right (And.right (by assumption))))))) | exact And.right (And.right (And.right (And.right (And.right (And.right (And.right (And.right (by assumption)))))))) | exact And.right (And.right (And.right (And.right (And.right (And.right (And.right (And.right (And.right (by assumption))))))))) | exact And.right (And.right (And.right (And.right (And.right (And.right (And.right (And.right (And.right (And.right (by assumption)))))))))) | exact And.right (And.right (And.right (And.right (And.right (And.right (And.right (And.right (And.right (And.right (And.right (by assumption))))))))))) | exact And.right (And.right (And.right (And.right (And.right (And.right (And.right (And.right (And.right (And.right (And.right (And.right (by assumption)))))))))))) | exact And.right (And.right (And.right (And.right (And.right (And.right (And.right (And.right (And.right (And.right (And.right (And.right (And.right (by assumption))))))))))))) | exact And.right (And.right (And.right (And.right (And.right (And.right (And.right (And.right (And.right (And.right (And.right (And.right (And.right (And.right (by assumption)))))))))))))) | exact And.right (And.right (And.right (And.right (And.right (And.right (And.right (And.right (And.right (And.right (And.right (And.right (And.right (And.right (And.right (by assumption))))))))))))))) | exact And.right (And.right (And.right (And.right (And.right (And.right (And.right (And.right (And.right (And.right (And.right (And.right (And.right (And.right (And.right (And.right (by assumption)))))))))))))))) | exact And.right (And.right (And.right (And.right (And.right (And.right (And.right (And.right (And.right (And.right (And.right (And.right (And.right (And.right (And.right (And.right (And.right (by assumption))))))))))))))))) | exact And.right (And.right (And.right (And.right (And.right (And.right (And.right (And.right (And.right (And.right (And.right (And.right (And.right (And.right (And.right (And.right (And.right (And.right (by assumption)))))))))))))))))) | exact AllLt.up (by assumption) (by k_extra "m_al")
  k_with "m_cells" => first | k_extra "m_cellsG" | (simp only [List.map_append, List.map_cons, List.cons_append, List.nil_append, List.mem_cons, List.map_nil, List.mem_append]; intro x hx; first | assumption | (rcases hx with hx | hx <;> simp only [hx, true_or, or_true]))
  k_with "m_grow" => first | (with_reducible exact Grow.refl) | (with_reducible refine Grow.add ?_ ?_; k_extra "m_grow"; exact cellsNe (by first | k_extra "m_lt" | omega) (by k_extra "m_al")) | (with_reducible refine Grow.transR (by assumption) ?_ ?_; k_extra "m_cells"; k_extra "m_grow")
  k_with "m_cell1" => (simp only [List.map_append, List.map_cons, List.cons_append, List.nil_append, List.mem_cons, List.map_nil, List.mem_append, true_or, or_true]; done)
  k_with "m_mem" => first | exact List.Mem.head _ | (refine List.Mem.tail _ ?_; k_extra "m_mem")
  k_with "m_sub" => (intro p hp; simp only [List.mem_cons, hp, or_true])
  k_with "m_ctx" => ((case N => k_asm); (case B => k_asm); (case F => k_asm); (case X => k_asm); (case T => k_asm); (case k => first | exact rfl | assumption); (case d => ktr_room); (case u => ktr_units))
  k_with "m_subR" => (intro p hp; simp only [List.mem_cons, List.mem_append, hp, or_true])
  k_with "m_memT" => first | assumption | exact List.Mem.head _ | (refine List.Mem.tail _ ?_; k_extra "m_memT")
  k_with "m_mq" => first | (with_reducible exact List.mem_cons_self) | ((with_reducible refine List.mem_cons_of_mem _ ?_); k_extra "m_mq") | ((with_reducible refine List.mem_append_left _ ?_); k_extra "m_mq") | ((with_reducible refine List.mem_append_right _ ?_); k_extra "m_mq") | (with_reducible assumption)
  k_with "m_sq" => first | (with_reducible exact fa_self) | ((with_reducible refine fa_tail ?_); k_extra "m_sq") | ((with_reducible refine fa_left ?_); k_extra "m_sq") | ((with_reducible refine fa_right ?_); k_extra "m_sq") | (with_reducible assumption)
  k_with "m_perm" => ((repeat' (with_reducible first | refine fa_cons ?_ ?_ | refine fa_app ?_ ?_ | exact fa_nil)); all_goals (first | k_extra "m_mq" | k_extra "m_sq"))
  k_with "m_cellsG" => ((try simp only [List.cons_append, List.nil_append, List.map_cons, List.map_append]); k_extra "m_perm")
  k_with "exec Assign cons ListComp" => walk_at "exec Assign"
  k_with "m_lt" => first | (with_reducible exact Nat.lt_succ_self _) | ((with_reducible refine Nat.lt_succ_of_lt ?_); k_extra "m_lt") | (with_reducible assumption) | (with_reducible exact And.left (by assumption)) | (with_reducible exact And.left (And.right (by assumption))) | (with_reducible exact And.left (And.right (And.right (by assumption)))) | (with_reducible exact And.left (And.right (And.right (And.right (by assumption))))) | (with_reducible exact And.left (And.right (And.right (And.right (And.right (by assumption)))))) | (with_reducible exact And.left (And.right (And.right (And.right (And.right (And.right (by assumption))))))) | (with_reducible exact And.left (And.right (And.right (And.right (And.right (And.right (And.right (by assumption)))))))) | (with_reducible exact And.left (And.right (And.right (And.right (And.right (And.right (And.right (And.right (by assumption))))))))) | (with_reducible exact And.left (And.right (And.right (And.right (And.right (And.right (And.right (And.right (And.right (by assumption)))))))))) | (with_reducible exact And.right (by assumption)) | (with_reducible exact And.right (And.right (by assumption))) | (with_reducible exact And.right (And.right (And.right (by assumption)))) | (with_reducible exact And.right (And.right (And.right (And.right (by assumption))))) | ((with_reducible refine Nat.lt_trans ?_ (by assumption)); k_extra "m_lt")
  k_with "m_ne" => first | (with_reducible assumption) | (with_reducible exact Ne.symm (by assumption)) | (with_reducible exact Ne.symm (And.left (by assumption))) | (with_reducible exact Ne.symm (And.left (And.right (by assumption)))) | (with_reducible exact And.left (by assumption)) | (with_reducible exact And.left (And.right (by assumption))) | exact Nat.ne_of_gt (by k_extra "m_lt") | exact Nat.ne_of_lt (by k_extra "m_lt") | omega
  k_with "m_rm" => first | (with_reducible exact room1 (by assumption) (Nat.le_of_ble_eq_true rfl)) | (with_reducible exact room2 (by assumption) (Nat.le_of_ble_eq_true rfl)) | (with_reducible exact room3 (by assumption) (Nat.le_of_ble_eq_true rfl)) | ((simp only [depth_under_make, depth_under_kw, depth_in1, depth_deeper, depth_caller, units_in1, units_deeper, Around.mark_units, units_caller]); (try dsimp only [ktrTop]); first | (with_reducible exact room1 (by assumption) (Nat.le_of_ble_eq_true rfl)) | (with_reducible exact room2 (by assumption) (Nat.le_of_ble_eq_true rfl)) | (with_reducible exact room3 (by assumption) (Nat.le_of_ble_eq_true rfl)))
  k_with "call builtin:len" => (k_here; (with_reducible show wpAny _ _ (call (Value.builtin "len") [Value.ref _]) _ _ _); k_dflt (refine' m_len (by k_asm) (by k_mem) (by omega) ?_; intro _ _))
  k_with "subscriptTail" => (k_here; (with_reducible show wpAny _ _ (subscriptTail _ _ (Value.ref _) (Value.int _ _)) _ _ _); k_dflt (refine' m_itemI (by k_asm) (by k_mem) (by assumption) (by omega) (by omega) (by omega) ?_; intro _ _))
  (have kf : PySem.Challenge.rw_nm0006_01.Holds → Mine.hd.heap_39 w.params = Mine.hd.heap_39 w.params := by k_fill; intro; rfl); clear kf
  intro dp un gd cn cs a ccd cl outer A₀ base h₀ L m mean mg mb wa nm o b ex rest s Q E B F X N hoff T hk hW hN hpre hb hd hu hret
  obtain ⟨at', st, t1, t2, n, rfl, ha0, hab, hs0, hs1⟩ := hW
  obtain ⟨vs, ns, n', hm, hI, hlen⟩ := hN
  refine wpAny_call ?_
  k_dflt ktr_enter
  k_steps
  all_goals (
    refine hret _ _ _ _ _ (by assumption) (by assumption) Grow.refl ⟨_, _, _, _, _, rfl, by omega, by omega, (m_fmod (by decide)).1, (m_fmod (by decide)).2⟩ (m_fmodN (by omega)))
end
end
local macro_rules | `(tactic| walk_at "call ref cons nil") => `(tactic| (k_here; (with_reducible show wpAny _ _ (call (Value.ref 169) [Value.ref _, Value.int _ _]) _ _ _); k_dflt (refine' DrawSpec.use (draw _ _ _ ?z1 ?z2) ?B ?F ?X ?N ?P ?off ?T ?k ?W ?I ?pre ?b ?d ?u ?_; k_extra "m_draw"; (case z1 => omega); (case z2 => omega); (case pre => trivial); intro r9 rest9 o9 h9 tk9 F9 N9 G9 off9 W9 I9 ho9; (try simp only [List.nil_append, List.cons_append] at N9); (try k_sweep); (obtain ⟨i9, t9, e9, hi9⟩ := ho9; subst e9))))
section
section
theorem operand (w : World) : DrawSpec w 176 1 4 (fun _ => True) (fun v => [v]) (fun rest r => ∃ d, OpdAt rest r d) := by
  w_top off
  k_with_none
  k_with "m_rst" => first | (with_reducible apply Rst.nil) | (with_reducible apply Rst.cons; k_extra "m_rst")
  k_with "m_pick" => first | (with_reducible apply Pick.head; k_extra "m_rst") | (with_reducible apply Pick.tail; k_extra "m_pick")
  k_with "m_draw" => (
  (case N => k_asm); (case P => k_extra "m_pick"); (case B => k_asm); (case F => k_asm); (case X => k_asm);
  (case off => ((try simp only [List.nil_append, List.cons_append]); k_all)); (case T => k_asm); (case k => first | exact rfl | assumption); (case W => assumption); (case I => assumption);
  (case b => omega); (case d => ktr_room); (case u => ktr_units))
  k_with "m_al" => first | assumption | exact And.right (by assumption) | exact And.right (And.right (by assumption)) | exact And.right (And.right (And.right (by assumption))) | exact And.right (And.right (And.right (And.right (by assumption)))) | exact And.right (And.right (And.right (And.right (And.right (by assumption))))) | exact And.right (And.right (And.right (And.right (And.right (And.right (by assumption)))))) | exact And.right (And.right (And.right (And.right (And.right (And.right (And.right (by assumption))))))) | exact And.right (And.right (And.right (And.right (And.right (And.right (And.right (And.right (by assumption)))))))) | exact And.right (And.right (And.right (And.right (And.right (And.right (And.right (And.right (And.right (by assumption))))))))) | exact And.right (And.right (And.right (And.right (And.right (And.right (And.right (And.right (And.right (And.right (by assumption)))))))))) | exact And.right (And.right (And.right (And.right (And.right (And.right (And.right (And.right (And.right (And.right (And.right (by assumption))))))))))) | exact And.right (And.right (And.right (And.right (And.right (And.right (And.right (And.right (And.right (And.right (And.right (And.right (by assumption)))))))))))) | exact And.right (And.right (And.right (And.right (And.right (And.right (And.right (And.right (And.right (And.right (And.right (And.right (And.right (by assumption))))))))))))) | exact And.right (And.right (And.right (And.right (And.right (And.right (And.right (And.right (And.right (And.right (And.right (And.right (And.right (And.right (by assumption)))))))))))))) | exact And.right (And.right (And.right (And.right (And.right (And.right (And.right (And.right (And.right (And.right (And.right (And.right (And.right (And.right (And.right (by assumption))))))))))))))) | exact And.right (And.right (And.right (And.right (And.right (And.right (And.right (And.right (And.right (And.right (And.right (And.right (And.right (And.right (And.right (And.right (by assumption)))))))))))))))) | exact And.right (And.right (And.right (And.right (And.right (And.right (And.right (And.right (And.right (And.right (And.right (And.right (And.right (And.right (And.right (And.right (And.right (by assumption))))))))))))))))) | exact And.right (And.right (And.right (And.right (And.right (And.right (And.right (And.right (And.right (And.right (And.right (And.right (And.right (And.right (And.right (And.right (And.right (And.right (by assumption)))))))))))))))))) | exact AllLt.up (by assumption) (by k_extra "m_al")
  k_with "m_cells" => first | k_extra "m_cellsG" | (simp only [List.map_append, List.map_cons, List.cons_append, List.nil_append, List.mem_cons, List.map_nil, List.mem_append]; intro x hx; first | assumption | (rcases hx with hx | hx <;> simp only [hx, true_or, or_true]))
  k_with "m_grow" => first | (with_reducible exact Grow.refl) | (with_reducible refine Grow.add ?_ ?_; k_extra "m_grow"; exact cellsNe (by first | k_extra "m_lt" | omega) (by k_extra "m_al")) | (with_reducible refine Grow.transR (by assumption) ?_ ?_; k_extra "m_cells"; k_extra "m_grow")
  k_with "m_cell1" => (simp only [List.map_append, List.map_cons, List.cons_append, List.nil_append, List.mem_cons, List.map_nil, List.mem_append, true_or, or_true]; done)
  k_with "m_mem" => first | exact List.Mem.head _ | (refine List.Mem.tail _ ?_; k_extra "m_mem")
  k_with "m_sub" => (intro p hp; simp only [List.mem_cons, hp, or_true])
  k_with "m_ctx" => ((case N => k_asm); (case B => k_asm); (case F => k_asm); (case X => k_asm); (case T => k_asm); (case k => first | exact rfl | assumption); (case d => ktr_room); (case u => ktr_units))
  k_with "m_subR" => (intro p hp; simp only [List.mem_cons, List.mem_append, hp, or_true])
  k_with "m_memT" => first | assumption | exact List.Mem.head _ | (refine List.Mem.tail _ ?_; k_extra "m_memT")
  k_with "m_mq" => first | (with_reducible exact List.mem_cons_self) | ((with_reducible refine List.mem_cons_of_mem _ ?_); k_extra "m_mq") | ((with_reducible refine List.mem_append_left _ ?_); k_extra "m_mq") | ((with_reducible refine List.mem_append_right _ ?_); k_extra "m_mq") | (with_reducible assumption)
  k_with "m_sq" => first | (with_reducible exact fa_self) | ((with_reducible refine fa_tail ?_); k_extra "m_sq") | ((with_reducible refine fa_left ?_); k_extra "m_sq") | ((with_reducible refine fa_right ?_); k_extra "m_sq") | (with_reducible assumption)
  k_with "m_perm" => ((repeat' (with_reducible first | refine fa_cons ?_ ?_ | refine fa_app ?_ ?_ | exact fa_nil)); all_goals (first | k_extra "m_mq" | k_extra "m_sq"))
  k_with "m_cellsG" => ((try simp only [List.cons_append, List.nil_append, List.map_cons, List.map_append]); k_extra "m_perm")
  k_with "exec Assign cons ListComp" => walk_at "exec Assign"
  k_with "m_lt" => first | (with_reducible exact Nat.lt_succ_self _) | ((with_reducible refine Nat.lt_succ_of_lt ?_); k_extra "m_lt") | (with_reducible assumption) | (with_reducible exact And.left (by assumption)) | (with_reducible exact And.left (And.right (by assumption))) | (with_reducible exact And.left (And.right (And.right (by assumption)))) | (with_reducible exact And.left (And.right (And.right (And.right (by assumption))))) | (with_reducible exact And.left (And.right (And.right (And.right (And.right (by assumption)))))) | (with_reducible exact And.left (And.right (And.right (And.right (And.right (And.right (by assumption))))))) | (with_reducible exact And.left (And.right (And.right (And.right (And.right (And.right (And.right (by assumption)))))))) | (with_reducible exact And.left (And.right (And.right (And.right (And.right (And.right (And.right (And.right (by assumption))))))))) | (with_reducible exact And.left (And.right (And.right (And.right (And.right (And.right (And.right (And.right (And.right (by assumption)))))))))) | (with_reducible exact And.right (by assumption)) | (with_reducible exact And.right (And.right (by assumption))) | (with_reducible exact And.right (And.right (And.right (by assumption)))) | (with_reducible exact And.right (And.right (And.right (And.right (by assumption))))) | ((with_reducible refine Nat.lt_trans ?_ (by assumption)); k_extra "m_lt")
  k_with "m_ne" => first | (with_reducible assumption) | (with_reducible exact Ne.symm (by assumption)) | (with_reducible exact Ne.symm (And.left (by assumption))) | (with_reducible exact Ne.symm (And.left (And.right (by assumption)))) | (with_reducible exact And.left (by assumption)) | (with_reducible exact And.left (And.right (by assumption))) | exact Nat.ne_of_gt (by k_extra "m_lt") | exact Nat.ne_of_lt (by k_extra "m_lt") | omega
  k_with "m_rm" => first | (with_reducible exact room1 (by assumption) (Nat.le_of_ble_eq_true rfl)) | (with_reducible exact room2 (by assumption) (Nat.le_of_ble_eq_true rfl)) | (with_reducible exact room3 (by assumption) (Nat.le_of_ble_eq_true rfl)) | ((simp only [depth_under_make, depth_under_kw, depth_in1, depth_deeper, depth_caller, units_in1, units_deeper, Around.mark_units, units_caller]); (try dsimp only [ktrTop]); first | (with_reducible exact room1 (by assumption) (Nat.le_of_ble_eq_true rfl)) | (with_reducible exact room2 (by assumption) (Nat.le_of_ble_eq_true rfl)) | (with_reducible exact room3 (by assumption) (Nat.le_of_ble_eq_true rfl)))
  (have kf : PySem.Challenge.rw_nm0006_01.Holds → Mine.hd.heap_39 w.params = Mine.hd.heap_39 w.params := by k_fill; intro; rfl); clear kf
  intro dp un gd cn cs a ccd cl outer A₀ base h₀ L m mean mg mb wa nm o b ex rest s Q E B F X N hoff T hk hW hN hpre hb hd hu hret
  refine wpAny_call ?_
  k_dflt ktr_enter
  k_steps
  · have NF := News.finish (wa := wa) (h₀ := h₀) (L := L) (by assumption) (by k_extra "m_pick")
    simp only [List.cons_append, List.nil_append] at NF
    refine hret _ _ _ _ _ (by assumption) NF ?_ (by assumption) ⟨_, .r (by omega) (by omega) (.head _)⟩
    k_extra "m_grow"
  · have NF := News.finish (wa := wa) (h₀ := h₀) (L := L) (by assumption) (by k_extra "m_pick")
    simp only [List.cons_append, List.nil_append] at NF
    refine hret _ _ _ _ _ (by assumption) NF ?_ (by assumption) ⟨_, .k (.head _)⟩
    k_extra "m_grow"
end
end
section
section
local macro_rules | `(tactic| walk_at "call ref cons nil") => `(tactic| (k_here; (with_reducible show wpAny _ _ (call (Value.ref 176) [Value.ref _]) _ _ _); k_dflt (refine' DrawSpec.use (operand _) ?B ?F ?X ?N ?P ?off ?T ?k ?W ?I ?pre ?b ?d ?u ?_; k_extra "m_draw"; (case pre => trivial); intro r9 rest9 o9 h9 tk9 F9 N9 G9 off9 W9 I9 ho9; (try simp only [List.nil_append, List.cons_append] at N9); (try k_sweep); (obtain ⟨d9, od9⟩ := ho9))))
theorem operands (w : World) (n : Nat) (t : Tok) (hn : n ≤ 13) : DrawSpec w 181 13 6 (fun _ => True) (fun v => [v, .int n t]) (fun rest r => ∃ ds, ArgsAt rest r ds ∧ ds.length = n) := by
  w_top off
  k_with_none
  k_with "m_rst" => first | (with_reducible apply Rst.nil) | (with_reducible apply Rst.cons; k_extra "m_rst")
  k_with "m_pick" => first | (with_reducible apply Pick.head; k_extra "m_rst") | (with_reducible apply Pick.tail; k_extra "m_pick")
  k_with "m_draw" => (
  (case N => k_asm); (case P => k_extra "m_pick"); (case B => k_asm); (case F => k_asm); (case X => k_asm);
  (case off => ((try simp only [List.nil_append, List.cons_append]); k_all)); (case T => k_asm); (case k => first | exact rfl | assumption); (case W => assumption); (case I => assumption);
  (case b => omega); (case d => ktr_room); (case u => ktr_units))
  k_with "m_al" => first | assumption | exact And.right (by assumption) | exact And.right (And.right (by assumption)) | exact And.right (And.right (And.right (by assumption))) | exact And.right (And.right (And.right (And.right (by assumption)))) | exact And.right (And.right (And.right (And.right (And.right (by assumption))))) | exact And.right (And.right (And.right (And.right (And.right (And.right (by assumption)))))) | exact And.right (And.right (And.right (And.right (And.right (And.right (And.right (by assumption))))))) | exact And.right (And.right (And.right (And.right (And.right (And.right (And.right (And.right (by assumption)))))))) | exact And.right (And.right (And.right (And.right (And.right (And.right (And.right (And.right (And.right (by assumption))))))))) | exact And.right (And.right (And.right (And.right (And.right (And.right (And.right (And.right (And.right (And.right (by assumption)))))))))) | exact And.right (And.right (And.right (And.right (And.right (And.right (And.right (And.right (And.right (And.right (And.right (by assumption))))))))))) | exact And.right (And.right (And.right (And.right (And.right (And.right (And.right (And.right (And.right (And.right (And.right (And.right (by assumption)))))))))))) | exact And.right (And.right (And.right (And.right (And.right (And.right (And.right (And.right (And.right (And.right (And.right (And.right (And.right (by assumption))))))))))))) | exact And.right (And.right (And.right (And.right (And.right (And.right (And.right (And.right (And.right (And.right (And.right (And.right (And.right (And.right (by assumption)))))))))))))) | exact And.right (And.right (And.right (And.right (And.right (And.right (And.right (And.right (And.right (And.right (And.right (And.right (And.right (And.right (And.right (by assumption))))))))))))))) | exact And.right (And.right (And.right (And.right (And.right (And.right (And.right (And.right (And.right (And.right (And.right (And.right (And.right (And.right (And.right (And.right (by assumption)))))))))))))))) | exact And.right (And.right (And.right (And.right (And.right (And.right (And.right (And.right (And.right (And.right (And.right (And.right (And.right (And.right (And.right (And.right (And.right (by assumption))))))))))))))))) | exact And.right (And.right (And.right (And.right (And.right (And.right (And.right (And.right (And.right (And.right (And.right (And.right (And.right (And.right (And.right (And.right (And.right (And.right (by assumption)))))))))))))))))) | exact AllLt.up (by assumption) (by k_extra "m_al")
  k_with "m_cells" => first | k_extra "m_cellsG" | (simp only [List.map_append, List.map_cons, List.cons_append, List.nil_append, List.mem_cons, List.map_nil, List.mem_append]; intro x hx; first | assumption | (rcases hx with hx | hx <;> simp only [hx, true_or, or_true]))
  k_with "m_grow" => first | (with_reducible exact Grow.refl) | (with_reducible refine Grow.add ?_ ?_; k_extra "m_grow"; exact cellsNe (by first | k_extra "m_lt" | omega) (by k_extra "m_al")) | (with_reducible refine Grow.transR (by assumption) ?_ ?_; k_extra "m_cells"; k_extra "m_grow")
  k_with "m_cell1" => (simp only [List.map_append, List.map_cons, List.cons_append, List.nil_append, List.mem_cons, List.map_nil, List.mem_append, true_or, or_true]; done)
  k_with "m_mem" => first | exact List.Mem.head _ | (refine List.Mem.tail _ ?_; k_extra "m_mem")
  k_with "m_sub" => (intro p hp; simp only [List.mem_cons, hp, or_true])
  k_with "m_ctx" => ((case N => k_asm); (case B => k_asm); (case F => k_asm); (case X => k_asm); (case T => k_asm); (case k => first | exact rfl | assumption); (case d => ktr_room); (case u => ktr_units))
  k_with "m_subR" => (intro p hp; simp only [List.mem_cons, List.mem_append, hp, or_true])
  k_with "m_memT" => first | assumption | exact List.Mem.head _ | (refine List.Mem.tail _ ?_; k_extra "m_memT")
  k_with "m_mq" => first | (with_reducible exact List.mem_cons_self) | ((with_reducible refine List.mem_cons_of_mem _ ?_); k_extra "m_mq") | ((with_reducible refine List.mem_append_left _ ?_); k_extra "m_mq") | ((with_reducible refine List.mem_append_right _ ?_); k_extra "m_mq") | (with_reducible assumption)
  k_with "m_sq" => first | (with_reducible exact fa_self) | ((with_reducible refine fa_tail ?_); k_extra "m_sq") | ((with_reducible refine fa_left ?_); k_extra "m_sq") | ((with_reducible refine fa_right ?_); k_extra "m_sq") | (with_reducible assumption)
  k_with "m_perm" => ((repeat' (with_reducible first | refine fa_cons ?_ ?_ | refine fa_app ?_ ?_ | exact fa_nil)); all_goals (first | k_extra "m_mq" | k_extra "m_sq"))
  k_with "m_cellsG" => ((try simp only [List.cons_append, List.nil_append, List.map_cons, List.map_append]); k_extra "m_perm")
  k_with "exec Assign cons ListComp" => walk_at "exec Assign"
  k_with "m_lt" => first | (with_reducible exact Nat.lt_succ_self _) | ((with_reducible refine Nat.lt_succ_of_lt ?_); k_extra "m_lt") | (with_reducible assumption) | (with_reducible exact And.left (by assumption)) | (with_reducible exact And.left (And.right (by assumption))) | (with_reducible exact And.left (And.right (And.right (by assumption)))) | (with_reducible exact And.left (And.right (And.right (And.right (by assumption))))) | (with_reducible exact And.left (And.right (And.right (And.right (And.right (by assumption)))))) | (with_reducible exact And.left (And.right (And.right (And.right (And.right (And.right (by assumption))))))) | (with_reducible exact And.left (And.right (And.right (And.right (And.right (And.right (And.right (by assumption)))))))) | (with_reducible exact And.left (And.right (And.right (And.right (And.right (And.right (And.right (And.right (by assumption))))))))) | (with_reducible exact And.left (And.right (And.right (And.right (And.right (And.right (And.right (And.right (And.right (by assumption)))))))))) | (with_reducible exact And.right (by assumption)) | (with_reducible exact And.right (And.right (by assumption))) | (with_reducible exact And.right (And.right (And.right (by assumption)))) | (with_reducible exact And.right (And.right (And.right (And.right (by assumption))))) | ((with_reducible refine Nat.lt_trans ?_ (by assumption)); k_extra "m_lt")
  k_with "m_ne" => first | (with_reducible assumption) | (with_reducible exact Ne.symm (by assumption)) | (with_reducible exact Ne.symm (And.left (by assumption))) | (with_reducible exact Ne.symm (And.left (And.right (by assumption)))) | (with_reducible exact And.left (by assumption)) | (with_reducible exact And.left (And.right (by assumption))) | exact Nat.ne_of_gt (by k_extra "m_lt") | exact Nat.ne_of_lt (by k_extra "m_lt") | omega
  k_with "m_rm" => first | (with_reducible exact room1 (by assumption) (Nat.le_of_ble_eq_true rfl)) | (with_reducible exact room2 (by assumption) (Nat.le_of_ble_eq_true rfl)) | (with_reducible exact room3 (by assumption) (Nat.le_of_ble_eq_true rfl)) | ((simp only [depth_under_make, depth_under_kw, depth_in1, depth_deeper, depth_caller, units_in1, units_deeper, Around.mark_units, units_caller]); (try dsimp only [ktrTop]); first | (with_reducible exact room1 (by assumption) (Nat.le_of_ble_eq_true rfl)) | (with_reducible exact room2 (by assumption) (Nat.le_of_ble_eq_true rfl)) | (with_reducible exact room3 (by assumption) (Nat.le_of_ble_eq_true rfl)))
  k_with "CompSrc" => refine hold ?_
  (have kf : PySem.Challenge.rw_nm0006_01.Holds → Mine.hd.heap_39 w.params = Mine.hd.heap_39 w.params := by k_fill; intro; rfl); clear kf
  intro dp un gd cn cs a ccd cl outer A₀ base h₀ L m mean mg mb wa nm o b ex rest s Q E B F X N hoff T hk hW hN hpre hb hd hu hret
  refine wpAny_call ?_
  k_dflt (walk_at "m_enterC")
  k_steps
  unfold Hold
  rename_i g' L1 h1 tk1 FG' F1 B' X' T' l1 oc d1 N1 h2 tk2 ta ub vc hr F2 N2 hsize
  obtain ⟨l1a, l1b⟩ := l1
  refine compSrc_range0 (n := n) (by rfl) F2 N2 hr (by omega) (fun g => comp_inv (n := n) (fun i ys news => ∃ o' rest' ds, news = (L1 + 1, oc) :: (wa, o') :: (ex ++ rest') ∧ Grow (wa :: ex.map (·.1)) rest rest' ∧ Off wa (ex ++ rest') ∧ WellObj nm (b + i) o' ∧ NumsAt nm rest' ∧ All2 (OpdAt rest') ys ds ∧ ds.length = i) ?turn ?fin n 0 [] _ (by omega) ?start)
  case start => exact ⟨o, rest, [], rfl, Grow.refl, hoff, hW.le (by omega), hN, .nil, rfl⟩
  case turn =>
    rintro i v ys news I oI C oC D m₂ h tk E' hi ⟨tv, rfl⟩ ⟨o', rest', ds, rfl, G, off, W, I', A2, hl⟩ hC hx F N off3 ⟨ne1, ne2, ne3⟩
    rw [off3_iff, off_cons, off_cons, off_cons, off_cons, off_cons, off_cons] at off3
    obtain ⟨⟨offI1, offI2, offI3⟩, ⟨offC1, offC2, offC3⟩, offD1, offD2, offD3⟩ := off3
    clear N1 F1 F2 N2 hr
    k_steps
    rename_i rest9 o9 h9 tk9 F9 N9 G9 off9 W9 I9 d9 od9
    refine LCg.CompEnd.intro (by assumption) N9 ((L1 + 1, oc) :: (wa, o9) :: (ex ++ rest9)) ?sub ?off trivial ⟨_, _, ds ++ [d9], rfl, ?G, off9, W9.le (by omega), I9, (A2.imp fun _ _ => OpdAt.mono G9.1).snoc od9, by rw [List.length_append, hl]; rfl⟩
    case sub =>
      intro p hp
      simp only [List.mem_cons] at hp ⊢
      rcases hp with h | h | h | h | h | h <;> simp only [h, true_or, or_true]
    case off => 
      rw [off3_iff, off_cons, off_cons, off_cons, off_cons, off_cons, off_cons]
      exact ⟨⟨offI1, offI2, G9.off (by k_extra "m_cell1") offI3⟩, ⟨offC1, offC2, G9.off (by k_extra "m_cell1") offC3⟩, offD1, offD2, G9.off (by k_extra "m_cell1") offD3⟩
    case G => exact Grow.trans G (G9.less (by k_extra "m_cellsG")) (fun _ h => h)
  case fin =>
    rintro ys news ⟨o', rest', ds, rfl, G, off, W, I', A2, hl⟩
    k_steps
    rename_i D' h' tk' F' N' o1 kF kN Tc kX
    obtain ⟨o1a, o1b, o1c⟩ := o1
    have NF := News.finish (wa := wa) (h₀ := h₀) (L := L) kN (by k_extra "m_pick")
    simp only [List.cons_append, List.nil_append] at NF
    refine hret _ _ _ _ _ (by assumption) NF ?_ (W.le (by omega)) ⟨ds, ⟨D', ys, ys.length, rfl, .head _, A2.imp fun _ _ => OpdAt.mono fun p hp => .tail _ (.tail _ hp)⟩, hl⟩
    refine Grow.add (Grow.add G ?_) (cellsOff o1b (off1_off o1c))
    exact cellsNe (Nat.lt_succ_of_lt l1a) (AllLt.up (Nat.lt_succ_self _) l1b)
theorem operandsZ (w : World) (z : Int) (t : Tok) (h0 : 0 ≤ z) (h1 : z ≤ 13) : DrawSpec w 181 13 6 (fun _ => True) (fun v => [v, .int z t]) (fun rest r => ∃ ds, ArgsAt rest r ds ∧ (ds.length : Int) = z) := by
  obtain ⟨n, rfl⟩ := Int.eq_ofNat_of_zero_le h0
  intro dp un gd cn cs a ccd cl outer A₀ base h₀ L m mean mg mb wa nm o b ex rest s Q E B F X N hoff T hk hW hN hpre hb hd hu hret
  refine operands w n t (by omega) dp un gd cn cs a ccd cl outer A₀ base h₀ L m mean mg mb wa nm o b ex rest s Q E B F X N hoff T hk hW hN hpre hb hd hu fun r rest' o' h' tk' F' N' G W' ho => ?_
  obtain ⟨ds, ha, hl⟩ := ho
  exact hret r rest' o' h' tk' F' N' G W' ⟨ds, ha, by rw [hl]⟩
end
end
section
section
theorem mkStep {w : World} {dp un : Nat} {gd : Option (List Code)} {cn : Str} {cs : Scope} {a : Addr} {ccd : Value} {cl : List (Str × Addr)} {outer : List Env} {A₀ : Around} {base h₀ : Heap} {L : Addr} {m : Str → Option Value} {mean : ExcName → Option Value} {mg mb : Str → Option Value}
    {news : Led} {s : Shared} {Q E : Value → Shared → Prop} {v1 v2 v3 v4 : Value} (B : Below A₀ base outer h₀) (F : Fr h₀ L s.heap m) (X : (Mine.hd.heap_39 w.params).In h₀) (N : News h₀ L s.heap news) (T : Top Mine.hd.view_39 (looseW Mine.hd.view_39 [Str.ofString "ACCESSES"]) mean mg mb h₀) (hk : cs.kind = .function)
    (hd : dp + 3 < recursionLimit) (hu : un + 60 < cLine)
    (hret : ∀ x dx h1 h2 h3 h4 h5 h6 t1 t2 t3 t4 t5 t6 t7 h' tk', Fr h₀ L h' m → News h₀ L h' ((x, instObj 80 dx) :: (dx, stepDict h1 h2 h3 h4 h5 h6 t1 t2 t3 t4 t5 t6 t7 v1 v2 v3 v4) :: news) → (∀ p ∈ news, p.1 < dx) → dx < x → Q (.ref x) { s with heap := h', toks := tk' }) :
    wpAny (model PySem.Challenge.rw_nm0006_01.row.prog w) (ktrTop dp un gd cn cs L a ccd cl outer) (call (.ref 80) [v1, v2, v3, v4]) Q E s := by
  w_top off
  k_with_none
  k_with "m_rst" => first | (with_reducible apply Rst.nil) | (with_reducible apply Rst.cons; k_extra "m_rst")
  k_with "m_pick" => first | (with_reducible apply Pick.head; k_extra "m_rst") | (with_reducible apply Pick.tail; k_extra "m_pick")
  k_with "m_draw" => (
  (case N => k_asm); (case P => k_extra "m_pick"); (case B => k_asm); (case F => k_asm); (case X => k_asm);
  (case off => ((try simp only [List.nil_append, List.cons_append]); k_all)); (case T => k_asm); (case k => first | exact rfl | assumption); (case W => assumption); (case I => assumption);
  (case b => omega); (case d => ktr_room); (case u => ktr_units))
  k_with "m_al" => first | assumption | exact And.right (by assumption) | exact And.right (And.right (by assumption)) | exact And.right (And.right (And.right (by assumption))) | exact And.right (And.right (And.right (And.right (by assumption)))) | exact And.right (And.right (And.right (And.right (And.right (by assumption))))) | exact And.right (And.right (And.right (And.right (And.right (And.right (by assumption)))))) | exact And.right (And.right (And.right (And.right (And.right (And.right (And.right (by assumption))))))) | exact And.right (And.right (And.right (And.right (And.right (And.right (And.right (And.right (by assumption)))))))) | exact And.right (And.right (And.right (And.right (And.right (And.right (And.right (And.right (And.right (by assumption))))))))) | exact And.right (And.right (And.right (And.right (And.right (And.right (And.right (And.right (And.right (And.right (by assumption)))))))))) | exact And.right (And.right (And.right (And.right (And.right (And.right (And.right (And.right (And.right (And.right (And.right (by assumption))))))))))) | exact And.right (And.right (And.right (And.right (And.right (And.right (And.right (And.right (And.right (And.right (And.right (And.right (by assumption)))))))))))) | exact And.right (And.right (And.right (And.right (And.right (And.right (And.right (And.right (And.right (And.right (And.right (And.right (And.right (by assumption))))))))))))) | exact And.right (And.right (And.right (And.right (And.right (And.right (And.right (And.right (And.right (And.right (And.right (And.right (And.right (And.right (by assumption)))))))))))))) | exact And.right (And.right (And.right (And.right (And.right (And.right (And.right (And.right (And.right (And.right (And.right (And.right (And.right (And.right (And.right (by assumption))))))))))))))) | exact And.right (And.right (And.right (And.right (And.right (And.right (And.right (And.right (And.right (And.right (And.right (And.right (And.right (And.right (And.right (And.right (by assumption)))))))))))))))) | exact And.right (And.right (And.right (And.right (And.right (And.right (And.right (And.right (And.right (And.right (And.right (And.right (And.right (And.right (And.right (And.right (And.right (by assumption))))))))))))))))) | exact And.right (And.right (And.right (And.right (And.right (And.right (And.right (And.right (And.right (And.right (And.right (And.right (And.right (And.right (And.right (And.right (And.right (And.right (by assumption)))))))))))))))))) | exact AllLt.up (by assumption) (by k_extra "m_al")
  k_with "m_cells" => first | k_extra "m_cellsG" | (simp only [List.map_append, List.map_cons, List.cons_append, List.nil_append, List.mem_cons, List.map_nil, List.mem_append]; intro x hx; first | assumption | (rcases hx with hx | hx <;> simp only [hx, true_or, or_true]))
  k_with "m_grow" => first | (with_reducible exact Grow.refl) | (with_reducible refine Grow.add ?_ ?_; k_extra "m_grow"; exact cellsNe (by first | k_extra "m_lt" | omega) (by k_extra "m_al")) | (with_reducible refine Grow.transR (by assumption) ?_ ?_; k_extra "m_cells"; k_extra "m_grow")
  k_with "m_cell1" => (simp only [List.map_append, List.map_cons, List.cons_append, List.nil_append, List.mem_cons, List.map_nil, List.mem_append, true_or, or_true]; done)
  k_with "m_mem" => first | exact List.Mem.head _ | (refine List.Mem.tail _ ?_; k_extra "m_mem")
  k_with "m_sub" => (intro p hp; simp only [List.mem_cons, hp, or_true])
  k_with "m_ctx" => ((case N => k_asm); (case B => k_asm); (case F => k_asm); (case X => k_asm); (case T => k_asm); (case k => first | exact rfl | assumption); (case d => ktr_room); (case u => ktr_units))
  k_with "m_subR" => (intro p hp; simp only [List.mem_cons, List.mem_append, hp, or_true])
  k_with "m_memT" => first | assumption | exact List.Mem.head _ | (refine List.Mem.tail _ ?_; k_extra "m_memT")
  k_with "m_mq" => first | (with_reducible exact List.mem_cons_self) | ((with_reducible refine List.mem_cons_of_mem _ ?_); k_extra "m_mq") | ((with_reducible refine List.mem_append_left _ ?_); k_extra "m_mq") | ((with_reducible refine List.mem_append_right _ ?_); k_extra "m_mq") | (with_reducible assumption)
  k_with "m_sq" => first | (with_reducible exact fa_self) | ((with_reducible refine fa_tail ?_); k_extra "m_sq") | ((with_reducible refine fa_left ?_); k_extra "m_sq") | ((with_reducible refine fa_right ?_); k_extra "m_sq") | (with_reducible assumption)
  k_with "m_perm" => ((repeat' (with_reducible first | refine fa_cons ?_ ?_ | refine fa_app ?_ ?_ | exact fa_nil)); all_goals (first | k_extra "m_mq" | k_extra "m_sq"))
  k_with "m_cellsG" => ((try simp only [List.cons_append, List.nil_append, List.map_cons, List.map_append]); k_extra "m_perm")
  k_with "exec Assign cons ListComp" => walk_at "exec Assign"
  k_with "m_lt" => first | (with_reducible exact Nat.lt_succ_self _) | ((with_reducible refine Nat.lt_succ_of_lt ?_); k_extra "m_lt") | (with_reducible assumption) | (with_reducible exact And.left (by assumption)) | (with_reducible exact And.left (And.right (by assumption))) | (with_reducible exact And.left (And.right (And.right (by assumption)))) | (with_reducible exact And.left (And.right (And.right (And.right (by assumption))))) | (with_reducible exact And.left (And.right (And.right (And.right (And.right (by assumption)))))) | (with_reducible exact And.left (And.right (And.right (And.right (And.right (And.right (by assumption))))))) | (with_reducible exact And.left (And.right (And.right (And.right (And.right (And.right (And.right (by assumption)))))))) | (with_reducible exact And.left (And.right (And.right (And.right (And.right (And.right (And.right (And.right (by assumption))))))))) | (with_reducible exact And.left (And.right (And.right (And.right (And.right (And.right (And.right (And.right (And.right (by assumption)))))))))) | (with_reducible exact And.right (by assumption)) | (with_reducible exact And.right (And.right (by assumption))) | (with_reducible exact And.right (And.right (And.right (by assumption)))) | (with_reducible exact And.right (And.right (And.right (And.right (by assumption))))) | ((with_reducible refine Nat.lt_trans ?_ (by assumption)); k_extra "m_lt")
  k_with "m_ne" => first | (with_reducible assumption) | (with_reducible exact Ne.symm (by assumption)) | (with_reducible exact Ne.symm (And.left (by assumption))) | (with_reducible exact Ne.symm (And.left (And.right (by assumption)))) | (with_reducible exact And.left (by assumption)) | (with_reducible exact And.left (And.right (by assumption))) | exact Nat.ne_of_gt (by k_extra "m_lt") | exact Nat.ne_of_lt (by k_extra "m_lt") | omega
  k_with "m_rm" => first | (with_reducible exact room1 (by assumption) (Nat.le_of_ble_eq_true rfl)) | (with_reducible exact room2 (by assumption) (Nat.le_of_ble_eq_true rfl)) | (with_reducible exact room3 (by assumption) (Nat.le_of_ble_eq_true rfl)) | ((simp only [depth_under_make, depth_under_kw, depth_in1, depth_deeper, depth_caller, units_in1, units_deeper, Around.mark_units, units_caller]); (try dsimp only [ktrTop]); first | (with_reducible exact room1 (by assumption) (Nat.le_of_ble_eq_true rfl)) | (with_reducible exact room2 (by assumption) (Nat.le_of_ble_eq_true rfl)) | (with_reducible exact room3 (by assumption) (Nat.le_of_ble_eq_true rfl)))
  (have kf : PySem.Challenge.rw_nm0006_01.Holds → Mine.hd.heap_39 w.params = Mine.hd.heap_39 w.params := by k_fill; intro; rfl); clear kf
  k_dflt (refine' call_cls ?k1 ?k2 ?k3 ?k4 ?k5 ?k6 ?_; (case k1 => k_asm); (case k2 => k_asm); (case k3 => k_asm); (case k4 => k_is); (case k5 => k_is); (case k6 => k_is); k_whole; intro x' d' h' F' N' l1 l2; (have l1c := allLt_of l1); (have l2c := ltN l2); (try k_sweep); ktr_enter)
  k_steps
  exact hret x' d' _ _ _ _ _ _ _ _ _ _ _ _ _ _ _ (by assumption) (by assumption) l1 l2
end
end
local macro_rules | `(tactic| walk_at "call ref cons nil") => `(tactic| (k_here; (with_reducible show wpAny _ _ (call (Value.ref 181) [Value.ref _, Value.int _ _]) _ _ _); k_dflt (refine' DrawSpec.use (operandsZ _ _ _ ?z1 ?z2) ?B ?F ?X ?N ?P ?off ?T ?k ?W ?I ?pre ?b ?d ?u ?_; k_extra "m_draw"; (case z1 => omega); (case z2 => omega); (case pre => trivial); intro r9 rest9 o9 h9 tk9 F9 N9 G9 off9 W9 I9 ho9; (try simp only [List.nil_append, List.cons_append] at N9); (try k_sweep); (obtain ⟨d9, od9, ld9⟩ := ho9))))
section
section

local macro_rules | `(tactic| walk_at "call ref cons nil") => `(tactic| (k_here; (with_reducible show wpAny _ _ (call (Value.ref 80) [_, _, _, _]) _ _ _); k_dflt (refine' mkStep ?B ?F ?X ?N ?T ?k ?d ?u ?_; (case N => k_asm); (case B => k_asm); (case F => k_asm); (case X => k_asm); (case T => k_asm); (case k => first | exact rfl | assumption); (case d => ktr_room); (case u => ktr_units); intro x9 dx9 h1 h2 h3 h4 h5 h6 t1 t2 t3 t4 t5 t6 t7 h9 tk9 F9 N9 l9 l8; (k_lt l9); (k_lt2 l8); (try k_sweep))))
theorem argsUp {rest rest' : Led} {v : Value} {d : List Opd} (h : ArgsAt rest v d) (hs : Sub rest rest') : ArgsAt rest' v d := h.mono hs
theorem step (w : World) (n : Nat) (t : Tok) (hn : n ≤ 4) : DrawSpec w 188 20 10 (fun _ => True) (fun v => [v, .int n t]) (StepOut n) := by
  w_top off
  k_with_none
  k_with "m_rst" => first | (with_reducible apply Rst.nil) | (with_reducible apply Rst.cons; k_extra "m_rst")
  k_with "m_pick" => first | (with_reducible apply Pick.head; k_extra "m_rst") | (with_reducible apply Pick.tail; k_extra "m_pick")
  k_with "m_draw" => (
  (case N => k_asm); (case P => k_extra "m_pick"); (case B => k_asm); (case F => k_asm); (case X => k_asm);
  (case off => ((try simp only [List.nil_append, List.cons_append]); k_all)); (case T => k_asm); (case k => first | exact rfl | assumption); (case W => assumption); (case I => assumption);
  (case b => omega); (case d => ktr_room); (case u => ktr_units))
  k_with "m_al" => first | assumption | exact And.right (by assumption) | exact And.right (And.right (by assumption)) | exact And.right (And.right (And.right (by assumption))) | exact And.right (And.right (And.right (And.right (by assumption)))) | exact And.right (And.right (And.right (And.right (And.right (by assumption))))) | exact And.right (And.right (And.right (And.right (And.right (And.right (by assumption)))))) | exact And.right (And.right (And.right (And.right (And.right (And.right (And.right (by assumption))))))) | exact And.right (And.right (And.right (And.right (And.right (And.right (And.right (And.right (by assumption)))))))) | exact And.right (And.right (And.right (And.right (And.right (And.right (And.right (And.right (And.right (by assumption))))))))) | exact And.right (And.right (And.right (And.right (And.right (And.right (And.right (And.right (And.right (And.right (by assumption)))))))))) | exact And.right (And.right (And.right (And.right (And.right (And.right (And.right (And.right (And.right (And.right (And.right (by assumption))))))))))) | exact And.right (And.right (And.right (And.right (And.right (And.right (And.right (And.right (And.right (And.right (And.right (And.right (by assumption)))))))))))) | exact And.right (And.right (And.right (And.right (And.right (And.right (And.right (And.right (And.right (And.right (And.right (And.right (And.right (by assumption))))))))))))) | exact And.right (And.right (And.right (And.right (And.right (And.right (And.right (And.right (And.right (And.right (And.right (And.right (And.right (And.right (by assumption)))))))))))))) | exact And.right (And.right (And.right (And.right (And.right (And.right (And.right (And.right (And.right (And.right (And.right (And.right (And.right (And.right (And.right (by assumption))))))))))))))) | exact And.right (And.right (And.right (And.right (And.right (And.right (And.right (And.right (And.right (And.right (And.right (And.right (And.right (And.right (And.right (And.right (by assumption)))))))))))))))) | exact And.right (And.right (And.right (And.right (And.right (And.right (And.right (And.right (And.right (And.right (And.right (And.right (And.right (And.right (And.right (And.right (And.right (by assumption))))))))))))))))) | exact And.right (And.right (And.right (And.right (And.right (And.right (And.right (And.right (And.right (And.right (And.right (And.right (And.right (And.right (And.right (And.right (And.right (And.right (by assumption)))))))))))))))))) | exact AllLt.up (by assumption) (by k_extra "m_al")
  k_with "m_cells" => first | k_extra "m_cellsG" | (simp only [List.map_append, List.map_cons, List.cons_append, List.nil_append, List.mem_cons, List.map_nil, List.mem_append]; intro x hx; first | assumption | (rcases hx with hx | hx <;> simp only [hx, true_or, or_true]))
  k_with "m_grow" => first | (with_reducible exact Grow.refl) | (with_reducible refine Grow.add ?_ ?_; k_extra "m_grow"; exact cellsNe (by first | k_extra "m_lt" | omega) (by k_extra "m_al")) | (with_reducible refine Grow.transR (by assumption) ?_ ?_; k_extra "m_cells"; k_extra "m_grow")
  k_with "m_cell1" => (simp only [List.map_append, List.map_cons, List.cons_append, List.nil_append, List.mem_cons, List.map_nil, List.mem_append, true_or, or_true]; done)
  k_with "m_mem" => first | exact List.Mem.head _ | (refine List.Mem.tail _ ?_; k_extra "m_mem")
  k_with "m_sub" => (intro p hp; simp only [List.mem_cons, hp, or_true])
  k_with "m_ctx" => ((case N => k_asm); (case B => k_asm); (case F => k_asm); (case X => k_asm); (case T => k_asm); (case k => first | exact rfl | assumption); (case d => ktr_room); (case u => ktr_units))
  k_with "m_subR" => (intro p hp; simp only [List.mem_cons, List.mem_append, hp, or_true])
  k_with "m_memT" => first | assumption | exact List.Mem.head _ | (refine List.Mem.tail _ ?_; k_extra "m_memT")
  k_with "m_mq" => first | (with_reducible exact List.mem_cons_self) | ((with_reducible refine List.mem_cons_of_mem _ ?_); k_extra "m_mq") | ((with_reducible refine List.mem_append_left _ ?_); k_extra "m_mq") | ((with_reducible refine List.mem_append_right _ ?_); k_extra "m_mq") | (with_reducible assumption)
  k_with "m_sq" => first | (with_reducible exact fa_self) | ((with_reducible refine fa_tail ?_); k_extra "m_sq") | ((with_reducible refine fa_left ?_); k_extra "m_sq") | ((with_reducible refine fa_right ?_); k_extra "m_sq") | (with_reducible assumption)
  k_with "m_perm" => ((repeat' (with_reducible first | refine fa_cons ?_ ?_ | refine fa_app ?_ ?_ | exact fa_nil)); all_goals (first | k_extra "m_mq" | k_extra "m_sq"))
  k_with "m_cellsG" => ((try simp only [List.cons_append, List.nil_append, List.map_cons, List.map_append]); k_extra "m_perm")
  k_with "exec Assign cons ListComp" => walk_at "exec Assign"
  k_with "m_lt" => first | (with_reducible exact Nat.lt_succ_self _) | ((with_reducible refine Nat.lt_succ_of_lt ?_); k_extra "m_lt") | (with_reducible assumption) | (with_reducible exact And.left (by assumption)) | (with_reducible exact And.left (And.right (by assumption))) | (with_reducible exact And.left (And.right (And.right (by assumption)))) | (with_reducible exact And.left (And.right (And.right (And.right (by assumption))))) | (with_reducible exact And.left (And.right (And.right (And.right (And.right (by assumption)))))) | (with_reducible exact And.left (And.right (And.right (And.right (And.right (And.right (by assumption))))))) | (with_reducible exact And.left (And.right (And.right (And.right (And.right (And.right (And.right (by assumption)))))))) | (with_reducible exact And.left (And.right (And.right (And.right (And.right (And.right (And.right (And.right (by assumption))))))))) | (with_reducible exact And.left (And.right (And.right (And.right (And.right (And.right (And.right (And.right (And.right (by assumption)))))))))) | (with_reducible exact And.right (by assumption)) | (with_reducible exact And.right (And.right (by assumption))) | (with_reducible exact And.right (And.right (And.right (by assumption)))) | (with_reducible exact And.right (And.right (And.right (And.right (by assumption))))) | ((with_reducible refine Nat.lt_trans ?_ (by assumption)); k_extra "m_lt")
  k_with "m_ne" => first | (with_reducible assumption) | (with_reducible exact Ne.symm (by assumption)) | (with_reducible exact Ne.symm (And.left (by assumption))) | (with_reducible exact Ne.symm (And.left (And.right (by assumption)))) | (with_reducible exact And.left (by assumption)) | (with_reducible exact And.left (And.right (by assumption))) | exact Nat.ne_of_gt (by k_extra "m_lt") | exact Nat.ne_of_lt (by k_extra "m_lt") | omega
  k_with "m_rm" => first | (with_reducible exact room1 (by assumption) (Nat.le_of_ble_eq_true rfl)) | (with_reducible exact room2 (by assumption) (Nat.le_of_ble_eq_true rfl)) | (with_reducible exact room3 (by assumption) (Nat.le_of_ble_eq_true rfl)) | ((simp only [depth_under_make, depth_under_kw, depth_in1, depth_deeper, depth_caller, units_in1, units_deeper, Around.mark_units, units_caller]); (try dsimp only [ktrTop]); first | (with_reducible exact room1 (by assumption) (Nat.le_of_ble_eq_true rfl)) | (with_reducible exact room2 (by assumption) (Nat.le_of_ble_eq_true rfl)) | (with_reducible exact room3 (by assumption) (Nat.le_of_ble_eq_true rfl)))
  (have kf : PySem.Challenge.rw_nm0006_01.Holds → Mine.hd.heap_39 w.params = Mine.hd.heap_39 w.params := by k_fill; intro; rfl); clear kf
  intro dp un gd cn cs a ccd cl outer A₀ base h₀ L m mean mg mb wa nm o b ex rest s Q E B F X N hoff T hk hW hN hpre hb hd hu hret
  refine wpAny_call ?_
  k_dflt ktr_enter
  k_steps
  all_goals (
    have NF := News.finish (wa := wa) (h₀ := h₀) (L := L) (by assumption) (by k_extra "m_pick")
    simp only [List.cons_append, List.nil_append] at NF
    refine hret _ _ _ _ _ (by assumption) NF (by k_extra "m_grow") (WellObj.le (by assumption) (by omega)) ?_
    first
    | exact stepOut_slot (by k_extra "m_mem") (by k_extra "m_mem") (by k_extra "m_mem") (by omega) (by omega) (by omega)
    | exact stepOut .const (by k_extra "m_mem") (by k_extra "m_mem") ⟨_, [_], _, rfl, by k_extra "m_mem", .cons (.k (by k_extra "m_mem")) .nil⟩ (by omega) (by omega) (.inl ⟨nofun, nofun⟩) ⟨nofun, nofun⟩ (by decide)
    | exact stepOut .add (by k_extra "m_mem") (by k_extra "m_mem") (argsUp (by assumption) (by k_extra "m_sub")) (by omega) (by omega) (.inl ⟨nofun, nofun⟩) ⟨nofun, nofun⟩ (by omega)
    | exact stepOut .load (by k_extra "m_mem") (by k_extra "m_mem") (argsUp (by assumption) (by k_extra "m_sub")) (by omega) (by omega) (.inr (by omega)) ⟨nofun, nofun⟩ (by omega)
    | exact stepOut .store (by k_extra "m_mem") (by k_extra "m_mem") (argsUp (by assumption) (by k_extra "m_sub")) (by omega) (by omega) (.inr (by omega)) ⟨nofun, nofun⟩ (by omega)
    | exact stepOut .call (by k_extra "m_mem") (by k_extra "m_mem") (argsUp (by assumption) (by k_extra "m_sub")) (by omega) (by omega) (.inl ⟨nofun, nofun⟩) ⟨nofun, nofun⟩ (by omega)
    | exact stepOut .callreg (by k_extra "m_mem") (by k_extra "m_mem") (argsUp (by assumption) (by k_extra "m_sub")) (by omega) (by omega) (.inl ⟨nofun, nofun⟩) ⟨nofun, nofun⟩ (by omega))
end
end
section
structure Mark : Prop where
section
variable {prog : Program} {w : World} {A : Around} {E : Value → Shared → Prop} {s : Shared} {env : Env} {h₀ : Heap} {target : Expr} {body : List Stmt} {Q : Flow → Shared → Prop}

def TurnEnd (h₀ : Heap) (L I : Addr) (oI : Obj) (Jn : (Str → Option Value) → Led → Prop) (s₁ : Shared) (f : Flow) (s₂ : Shared) : Prop :=
  f = .next ∧ ∃ h' tk m₂ nw, s₂ = { s₁ with heap := h', toks := tk } ∧ Fr h₀ L h' m₂ ∧ News h₀ L h' ((I, oI) :: nw) ∧ Off I nw ∧ Jn m₂ nw
theorem TurnEnd.intro {L I : Addr} {oI : Obj} {Jn : (Str → Option Value) → Led → Prop} {s₁ : Shared} {h' : Heap} {tk : Nat} {m₂ : Str → Option Value} {nw all : Led} (F : Fr h₀ L h' m₂) (N : News h₀ L h' all) (hs : ∀ p ∈ (I, oI) :: nw, p ∈ all) (ho : Off I nw) (hJ : Jn m₂ nw) :
    TurnEnd h₀ L I oI Jn s₁ .next { s₁ with heap := h', toks := tk } := ⟨rfl, h', tk, m₂, nw, rfl, F, News.sub' N hs, ho, hJ⟩

theorem own_of {L I : Addr} {h : Heap} {own nw : Led} {oI : Obj} (hI₀ : h₀.get? I = none) (hIL : I ≠ L) (hoI : h.get? I = some oI) (N : News h₀ L h (own ++ nw)) :
    News h₀ L h ((I, oI) :: nw) := fun p hp => by
  rcases List.mem_cons.mp hp with rfl | hp
  · exact ⟨hoI, hIL, hI₀⟩
  · exact N p (List.mem_append_right _ hp)

theorem iter_list {l : Addr} {vs : List Value} {n₀ : Nat} {m₀ : Str → Option Value} {news : Led} (J : Nat → (Str → Option Value) → Led → Prop) (hh : A.handled = none) (F : Fr h₀ env.locals s.heap m₀) (N : News h₀ env.locals s.heap news)
    (hm : ∀ i m nw, J i m nw → (l, listOf vs.toArray n₀) ∈ nw) (hj : J 0 m₀ news)
    (turn : ∀ i v m₁ nw s₁ I oI, vs[i]? = some v → J i m₁ nw → Off I nw → Fr h₀ env.locals s₁.heap m₁ → News h₀ env.locals s₁.heap ((I, oI) :: nw) →
      wpAny (model prog w) A (assign target env v) (fun _ s₃ => wpAny (model prog w) A (execs body env) (TurnEnd h₀ env.locals I oI (J (i + 1)) s₁) E s₃) E s₁)
    (done : ∀ m₁ nw h tk, J vs.length m₁ nw → Fr h₀ env.locals h m₁ → News h₀ env.locals h nw → Q .next { s with heap := h, toks := tk }) :
    wpAny (model prog w) A (pyIter (.ref l)) (fun it s₂ => LoopAtT prog w A h₀ env target body Q E it s₂) E s := by
  have hml := hm _ _ _ hj
  have hls : s.heap.IsList l vs.toArray := isList_led N hml
  have hlt : l < s.heap.objs.size := Heap.lt_size (N _ hml).1
  have hl₀ : h₀.get? l = none := (N _ hml).2.2
  have hlL : l ≠ env.locals := (N _ hml).2.1
  refine wpAny_pyIter_list hls ?_
  have W := Walks.list (prog := prog) (w := w) hh s.heap.objs.size l (Nat.ne_of_lt hlt) vs.toArray
  have hsz : vs.toArray.size = vs.length := by simp
  rw [hsz] at W
  have hIL : s.heap.objs.size ≠ env.locals := Nat.ne_of_gt F.ns.lt
  have hI₀ : h₀.get? s.heap.objs.size = none := next_is_new F
  refine ⟨s.heap.objs.size, _, _, vs.length, _, _, m₀, news, J, rfl, W, ?_, ?_, ?_, ⟨⟨_, Heap.get?_push_size _ rfl, rfl, rfl⟩, hls.at fun o e => Heap.get?_push_of_some _ e⟩, F.push _, (fun p hp => ⟨Heap.get?_push_of_some _ (N p hp).1, (N p hp).2⟩), (fun i s' v Q' st hQ' => letGo_listiter st.1 hQ'), hj, ?_, ?_⟩
  · intro hm'
    rcases List.mem_cons.mp hm' with e | hm'
    · exact hIL e.symm
    · exact hlL (List.mem_singleton.mp hm').symm
  · intro b hb
    rw [List.mem_singleton.mp hb]; exact hI₀
  · intro p hp hI
    rw [List.mem_singleton] at hI
    exact Nat.ne_of_lt (Heap.lt_size (N p hp).1) hI
  · intro i v m₁ nw s₁ own hi hP hJ hoff hsub hget hall hst F₁ N₁
    obtain ⟨oI, hoI, _⟩ := hst.1
    have hv : vs[i]? = some v := by simpa using hP
    have hoff' : Off s.heap.objs.size nw := fun p hp e => hoff p hp (List.mem_singleton.mpr e)
    refine wpAny_mono (turn i v m₁ nw s₁ s.heap.objs.size oI hv hJ hoff' F₁ (own_of hI₀ hIL hoI N₁)) (fun _ s₃ h₃ => wpAny_mono h₃ (fun f s₂ h₂ => ?_) fun _ _ e => e) fun _ _ e => e
    obtain ⟨hf, h', tk, m₂, nw₂, rfl, F₂, N₂, ho₂, hJ₂⟩ := h₂
    have fin : LoopStepU h₀ env.locals [s.heap.objs.size] own (J (i + 1)) s₁ .next { s₁ with heap := h', toks := tk } := by
      refine LoopStepU.intro F₂ (fun p hp => ?_) (fun p hp e => ho₂ p hp (List.mem_singleton.mp e)) hJ₂
      rcases List.mem_append.mp hp with hp | hp
      · have hpf := hsub p hp
        rcases List.mem_cons.mp hpf with e | hpf
        · have h1 := hget p hp
          rw [e, hoI] at h1
          have hpe : p = (s.heap.objs.size, oI) := by
            obtain ⟨p1, p2⟩ := p
            cases h1; cases e; rfl
          rw [hpe]; exact N₂ _ (.head _)
        · have e := List.mem_singleton.mp hpf
          have h1 := hget p hp
          have h2 := (N₁ _ (List.mem_append_right _ (hm _ _ _ hJ))).1
          rw [e] at h1
          rw [h2] at h1
          have hpe : p = (l, listOf vs.toArray n₀) := by
            obtain ⟨p1, p2⟩ := p
            cases h1; cases e; rfl
          rw [hpe]; exact N₂ _ (.tail _ (hm _ _ _ hJ₂))
      · exact N₂ p (.tail _ hp)
    subst hf
    exact fin
  · intro h' tk m' nw F' N' _ hJ
    exact done m' nw h' tk hJ F' N'

theorem iter_range {r : Addr} {n : Nat} {t u v : Tok} {m₀ : Str → Option Value} {news : Led} (J : Nat → (Str → Option Value) → Led → Prop) (hh : A.handled = none) (hr : IsRange s.heap r 0 (n : Int) 1 t u v) (hn : n ≤ 1000)
    (hgo : ∀ it v, letOwnedTupleGo target it v = pure ()) (F : Fr h₀ env.locals s.heap m₀) (N : News h₀ env.locals s.heap news) (hj : J 0 m₀ news)
    (turn : ∀ i t m₁ nw s₁ I oI, i < n → J i m₁ nw → Off I nw → Fr h₀ env.locals s₁.heap m₁ → News h₀ env.locals s₁.heap ((I, oI) :: nw) →
      wpAny (model prog w) A (assign target env (.int (i : Nat) t)) (fun _ s₃ => wpAny (model prog w) A (execs body env) (TurnEnd h₀ env.locals I oI (J (i + 1)) s₁) E s₃) E s₁)
    (done : ∀ m₁ nw h tk, J n m₁ nw → Fr h₀ env.locals h m₁ → News h₀ env.locals h nw → Q .next { s with heap := h, toks := tk }) :
    wpAny (model prog w) A (pyIter (.ref r)) (fun it s₂ => LoopAtT prog w A h₀ env target body Q E it s₂) E s := by
  have hsm : Builtin.Range.small 0 (n : Int) 1 = true := small_one (by omega) (by omega) (by omega) (by omega)
  have hsz : Builtin.Range.rangeSize 0 (n : Int) 1 = (n : Int) := by unfold Builtin.Range.rangeSize; simp only [Int.ediv_one]; split <;> (try split) <;> omega
  refine wpAny_pyIter_range hr hsm ?_
  have W := Walks.range (prog := prog) (w := w) hh s.heap.objs.size 0 1 n
  have hIL : s.heap.objs.size ≠ env.locals := Nat.ne_of_gt F.ns.lt
  have hI₀ : h₀.get? s.heap.objs.size = none := next_is_new F
  refine ⟨s.heap.objs.size, _, _, n, _, _, m₀, news, J, rfl, W, ?_, ?_, ?_, (by show IsRangeIter _ _ _ _ _; rw [hsz]; simpa using Heap.get?_push_size _ rfl), F.push _, (fun p hp => ⟨Heap.get?_push_of_some _ (N p hp).1, (N p hp).2⟩), (fun i s' v Q' _ hQ' => by rw [hgo]; exact wpAny_pure hQ'), hj, ?_, ?_⟩
  · intro hm'
    exact hIL (List.mem_singleton.mp hm').symm
  · intro b hb
    rw [List.mem_singleton.mp hb]; exact hI₀
  · intro p hp hI
    rw [List.mem_singleton] at hI
    exact Nat.ne_of_lt (Heap.lt_size (N p hp).1) hI
  · intro i v m₁ nw s₁ own hi hP hJ hoff hsub hget hall hst F₁ N₁
    obtain ⟨t', rfl⟩ := hP
    have hoff' : Off s.heap.objs.size nw := fun p hp e => hoff p hp (List.mem_singleton.mpr e)
    obtain ⟨oI, hoI⟩ : ∃ oI, s₁.heap.get? s.heap.objs.size = some oI := ⟨_, hst⟩
    have hv : (0 : Int) + (i : Int) * 1 = (i : Int) := by omega
    rw [hv]
    refine wpAny_mono (turn i t' m₁ nw s₁ s.heap.objs.size oI hi hJ hoff' F₁ (own_of hI₀ hIL hoI N₁)) (fun _ s₃ h₃ => wpAny_mono h₃ (fun f s₂ h₂ => ?_) fun _ _ e => e) fun _ _ e => e
    obtain ⟨hf, h', tk, m₂, nw₂, rfl, F₂, N₂, ho₂, hJ₂⟩ := h₂
    subst hf
    refine LoopStepU.intro F₂ (fun p hp => ?_) (fun p hp e => ho₂ p hp (List.mem_singleton.mp e)) hJ₂
    rcases List.mem_append.mp hp with hp | hp
    · have e := List.mem_singleton.mp (hsub p hp)
      have h1 := hget p hp
      rw [e, hoI] at h1
      have hpe : p = (s.heap.objs.size, oI) := by
        obtain ⟨p1, p2⟩ := p
        cases h1; cases e; rfl
      rw [hpe]; exact N₂ _ (.head _)
    · exact N₂ p (.tail _ hp)
  · intro h' tk m' nw F' N' _ hJ
    exact done m' nw h' tk hJ F' N'
end
end
section
structure BlockD where
  steps : List StepD
  fin : StepD
structure FuncD where
  slots : List (Int × Int)
  params : List Int
  blocks : List BlockD
abbrev blockDict (h1 h2 h3 : Int) (t1 t2 t3 : Tok) (a b c : Value) : Obj :=
  dictOf [⟨h1, .str (Str.ofString "number") t1, a⟩, ⟨h2, .str (Str.ofString "steps") t2, b⟩, ⟨h3, .str (Str.ofString "end") t3, c⟩] 3
inductive BlockAt (rest : Led) : Value → BlockD → Prop
  | mk {x dx al : Addr} {h1 h2 h3 : Int} {t1 t2 t3 : Tok} {vn ve : Value} {d : BlockD} {vs : List Value} {n : Nat} (hx : (x, instObj 101 dx) ∈ rest) (hd : (dx, blockDict h1 h2 h3 t1 t2 t3 vn (.ref al) ve) ∈ rest)
      (ha : (al, listOf (List.toArray vs) n) ∈ rest) (h2 : All2 (StepAt rest) vs d.steps) (he : StepAt rest ve d.fin) : BlockAt rest (.ref x) d
theorem BlockAt.mono {rest rest' : Led} (hs : Sub rest rest') {v : Value} {d : BlockD} (h : BlockAt rest v d) : BlockAt rest' v d := by
  cases h with | mk a b c e f => exact .mk (hs _ a) (hs _ b) (hs _ c) (e.imp fun _ _ => StepAt.mono hs) (f.mono hs)
/-- a slot's two ints in a tuple -/
inductive SlotAt (rest : Led) : Value → Int × Int → Prop
  | mk {a : Addr} {x y : Int} {t u : Tok} : (a, ({ cls := .type "tuple", data := .seq #[.int x t, .int y u] } : Obj)) ∈ rest → SlotAt rest (.ref a) (x, y)
theorem SlotAt.mono {rest rest' : Led} (hs : Sub rest rest') {v : Value} {d : Int × Int} (h : SlotAt rest v d) : SlotAt rest' v d := by
  cases h with | mk a => exact .mk (hs _ a)
def SlotsAt (rest : Led) (v : Value) (ds : List (Int × Int)) : Prop := ∃ al vs n, v = .ref al ∧ (al, listOf (List.toArray vs) n) ∈ rest ∧ All2 (SlotAt rest) vs ds
theorem SlotsAt.mono {rest rest' : Led} (hs : Sub rest rest') {v : Value} {d : List (Int × Int)} (h : SlotsAt rest v d) : SlotsAt rest' v d := by
  obtain ⟨al, vs, n, a, b, c⟩ := h
  exact ⟨al, vs, n, a, hs _ b, c.imp fun _ _ => SlotAt.mono hs⟩
inductive IntAt : Value → Int → Prop
  | mk {x : Int} {t : Tok} : IntAt (.int x t) x
def IntsAt (rest : Led) (v : Value) (ds : List Int) : Prop := ∃ al vs n, v = .ref al ∧ (al, listOf (List.toArray vs) n) ∈ rest ∧ All2 IntAt vs ds
theorem IntsAt.mono {rest rest' : Led} (hs : Sub rest rest') {v : Value} {d : List Int} (h : IntsAt rest v d) : IntsAt rest' v d := by
  obtain ⟨al, vs, n, a, b, c⟩ := h
  exact ⟨al, vs, n, a, hs _ b, c⟩
abbrev funcDict (h1 h2 h3 h4 h5 h6 h7 : Int) (t1 t2 t3 t4 t5 t6 t7 t8 : Tok) (a b c d : Value) : Obj :=
  dictOf [⟨h1, .str (Str.ofString "name") t1, a⟩, ⟨h2, .str (Str.ofString "params") t2, b⟩, ⟨h3, .str (Str.ofString "is_static") t3, .bool false⟩, ⟨h4, .str (Str.ofString "slots") t4, c⟩, ⟨h5, .str (Str.ofString "blocks") t5, d⟩, ⟨h6, .str (Str.ofString "registers") t6, .int 0 t8⟩, ⟨h7, .str (Str.ofString "has_value") t7, .bool false⟩] 7
inductive FuncAt (rest : Led) : Value → FuncD → Prop
  | mk {x dx bl : Addr} {h1 h2 h3 h4 h5 h6 h7 : Int} {t1 t2 t3 t4 t5 t6 t7 t8 : Tok} {vn vp vs : Value} {d : FuncD} {bvs : List Value} {n : Nat} (hx : (x, instObj 122 dx) ∈ rest)
      (hd : (dx, funcDict h1 h2 h3 h4 h5 h6 h7 t1 t2 t3 t4 t5 t6 t7 t8 vn vp vs (.ref bl)) ∈ rest) (hp : IntsAt rest vp d.params) (hs : SlotsAt rest vs d.slots) (hb : (bl, listOf (List.toArray bvs) n) ∈ rest) (h2 : All2 (BlockAt rest) bvs d.blocks) : FuncAt rest (.ref x) d
theorem FuncAt.mono {rest rest' : Led} (hs : Sub rest rest') {v : Value} {d : FuncD} (h : FuncAt rest v d) : FuncAt rest' v d := by
  cases h with | mk a b c e f g => exact .mk (hs _ a) (hs _ b) (c.mono hs) (e.mono hs) (hs _ f) (g.imp fun _ _ => BlockAt.mono hs)

/-- a def that reads: what stood stands, one value comes back -/
def ReadSpec (w : World) (f : Addr) (D : Nat) (Pre : Led → Prop) (args : List Value) (Out : Value → Prop) : Prop :=
  ∀ (dp un : Nat) (gd : Option (List Code)) (cn : Str) (cs : Scope) (a : Addr) (ccd : Value) (cl : List (Str × Addr)) (outer : List Env) (A₀ : Around) (base h₀ : Heap) (L : Addr) (m : Str → Option Value)
    (mean : ExcName → Option Value) (mg mb : Str → Option Value) (news : Led) (s : Shared) (Q E : Value → Shared → Prop),
    Below A₀ base outer h₀ → Fr h₀ L s.heap m → (Mine.hd.heap_39 w.params).In h₀ → News h₀ L s.heap news →
    Top Mine.hd.view_39 (looseW Mine.hd.view_39 [Str.ofString "ACCESSES"]) mean mg mb h₀ → cs.kind = .function → Pre news → dp + D < recursionLimit → un + 20 * D < cLine →
    (∀ r h' tk', Fr h₀ L h' m → News h₀ L h' news → Out r → Q r { s with heap := h', toks := tk' }) →
    wpAny (model PySem.Challenge.rw_nm0006_01.row.prog w) (ktrTop dp un gd cn cs L a ccd cl outer) (call (.ref f) args) Q E s

/-- the words a call lays down -/
def stepW (most : Int) (d : StepD) : Int := match d.kind with
  | .call => max (max most 0) ((d.args.length : Int) - 8)
  | .callreg => max (max most 0) ((d.args.length : Int) - 1 - 8)
  | _ => most
def blockW (most : Int) (d : BlockD) : Int := d.steps.foldl stepW most
def funcW (d : FuncD) : Int := d.blocks.foldl blockW (-1)
def BlockOk (n : Nat) (d : BlockD) : Prop := d.steps.length ≤ 3 ∧ (∀ st ∈ d.steps, StepOk st ∧ (st.kind = .slot → st.more < n) ∧ st.kind ≠ .give) ∧ StepOk d.fin ∧ d.fin.kind = .give
def FuncOk (d : FuncD) : Prop := d.slots.length ≤ 4 ∧ (∀ s ∈ d.slots, 0 ≤ s.1 ∧ s.1 ≤ 20 ∧ (s.2 = 1 ∨ s.2 = 2 ∨ s.2 = 4 ∨ s.2 = 8)) ∧ (d.params = [] ∨ d.params = [0] ∨ d.params = [0, 1]) ∧ d.blocks.length ≤ 3 ∧ ∀ b ∈ d.blocks, BlockOk d.slots.length b
theorem foldl_take {α β : Type} (f : β → α → β) (z : β) {l : List α} {i : Nat} {a : α} (h : l[i]? = some a) : (l.take (i + 1)).foldl f z = f ((l.take i).foldl f z) a := by
  rw [List.take_add_one, h, List.foldl_append]; rfl
theorem kind_cases (k : Kind) : k = .call ∨ k = .callreg ∨ ((k.str = Str.ofString "call") = False ∧ (k.str = Str.ofString "callreg") = False ∧ ∀ m d, d.kind = k → stepW m d = m) := by
  cases k <;> first | exact .inl rfl | exact .inr (.inl rfl) | exact .inr (.inr ⟨by decide, by decide, fun m d h => by unfold stepW; rw [h]⟩)
/-- a def that reads and makes: what stood stands, what it makes is told by Out -/
def MakeSpec (w : World) (f : Addr) (D : Nat) (Pre : Led → Prop) (args : List Value) (Out : Led → Value → Prop) : Prop :=
  ∀ (dp un : Nat) (gd : Option (List Code)) (cn : Str) (cs : Scope) (a : Addr) (ccd : Value) (cl : List (Str × Addr)) (outer : List Env) (A₀ : Around) (base h₀ : Heap) (L : Addr) (m : Str → Option Value)
    (mean : ExcName → Option Value) (mg mb : Str → Option Value) (ex rest : Led) (s : Shared) (Q E : Value → Shared → Prop),
    Below A₀ base outer h₀ → Fr h₀ L s.heap m → (Mine.hd.heap_39 w.params).In h₀ → News h₀ L s.heap (ex ++ rest) →
    Top Mine.hd.view_39 (looseW Mine.hd.view_39 [Str.ofString "ACCESSES"]) mean mg mb h₀ → cs.kind = .function → Pre rest → dp + D < recursionLimit → un + 20 * D < cLine →
    (∀ r rest' h' tk', Fr h₀ L h' m → News h₀ L h' (ex ++ rest') → Grow (ex.map (·.1)) rest rest' → Out rest' r → Q r { s with heap := h', toks := tk' }) →
    wpAny (model PySem.Challenge.rw_nm0006_01.row.prog w) (ktrTop dp un gd cn cs L a ccd cl outer) (call (.ref f) args) Q E s
theorem MakeSpec.use {w : World} {f : Addr} {D : Nat} {Pre : Led → Prop} {args : List Value} {Out : Led → Value → Prop}
    {dp un : Nat} {gd : Option (List Code)} {cn : Str} {cs : Scope} {a : Addr} {ccd : Value} {cl : List (Str × Addr)} {outer : List Env} {A₀ : Around} {base h₀ : Heap} {L : Addr} {m : Str → Option Value}
    {mean : ExcName → Option Value} {mg mb : Str → Option Value} {news fr ex rest : Led} {s : Shared} {Q E : Value → Shared → Prop}
    (C : MakeSpec w f D Pre args Out)
    (B : Below A₀ base outer h₀) (F : Fr h₀ L s.heap m) (X : (Mine.hd.heap_39 w.params).In h₀) (N : News h₀ L s.heap news) (P : Rst ex rest news fr)
    (T : Top Mine.hd.view_39 (looseW Mine.hd.view_39 [Str.ofString "ACCESSES"]) mean mg mb h₀) (hk : cs.kind = .function) (hpre : Pre rest) (hd : dp + D < recursionLimit) (hu : un + 20 * D < cLine)
    (ret : ∀ r rest' h' tk', Fr h₀ L h' m → News h₀ L h' (fr ++ (ex ++ rest')) → Grow ((fr ++ ex).map (·.1)) rest rest' → Out rest' r → Q r { s with heap := h', toks := tk' }) :
    wpAny (model PySem.Challenge.rw_nm0006_01.row.prog w) (ktrTop dp un gd cn cs L a ccd cl outer) (call (.ref f) args) Q E s := by
  refine C _ _ _ _ _ _ _ _ _ _ _ _ _ _ _ _ _ (fr ++ ex) rest _ _ _ B F X (by rw [List.append_assoc, ← P.eq]; exact N) T hk hpre hd hu fun r rest' h' tk' F' N' G ho => ?_
  rw [List.append_assoc] at N'
  exact ret r rest' h' tk' F' N' G ho
theorem ReadSpec.use {w : World} {f : Addr} {D : Nat} {Pre : Led → Prop} {args : List Value} {Out : Value → Prop}
    {dp un : Nat} {gd : Option (List Code)} {cn : Str} {cs : Scope} {a : Addr} {ccd : Value} {cl : List (Str × Addr)} {outer : List Env} {A₀ : Around} {base h₀ : Heap} {L : Addr} {m : Str → Option Value}
    {mean : ExcName → Option Value} {mg mb : Str → Option Value} {news : Led} {s : Shared} {Q E : Value → Shared → Prop}
    (C : ReadSpec w f D Pre args Out)
    (B : Below A₀ base outer h₀) (F : Fr h₀ L s.heap m) (X : (Mine.hd.heap_39 w.params).In h₀) (N : News h₀ L s.heap news)
    (T : Top Mine.hd.view_39 (looseW Mine.hd.view_39 [Str.ofString "ACCESSES"]) mean mg mb h₀) (hk : cs.kind = .function) (hpre : Pre news) (hd : dp + D < recursionLimit) (hu : un + 20 * D < cLine)
    (ret : ∀ r h' tk', Fr h₀ L h' m → News h₀ L h' news → Out r → Q r { s with heap := h', toks := tk' }) :
    wpAny (model PySem.Challenge.rw_nm0006_01.row.prog w) (ktrTop dp un gd cn cs L a ccd cl outer) (call (.ref f) args) Q E s :=
  C _ _ _ _ _ _ _ _ _ _ _ _ _ _ _ _ _ _ _ _ _ B F X N T hk hpre hd hu ret

/-- rounded -/
def roundI (n a : Int) : Int := (n + a - 1).fdiv a * a
theorem roundI_spec {n a : Int} (ha : 0 < a) : n ≤ roundI n a ∧ roundI n a < n + a ∧ (roundI n a).fmod a = 0 := by
  unfold roundI
  have h1 := Int.fdiv_mul_add_fmod (n + a - 1) a
  have h2 := Int.fmod_nonneg_of_pos (n + a - 1) ha
  have h3 := Int.fmod_lt_of_pos (n + a - 1) ha
  exact ⟨by omega, by omega, Int.mul_fmod_left ..⟩
theorem off_mid {d : Addr} {p : Addr × Obj} {ex l : Led} : Off d (ex ++ (p :: l)) ↔ (@Ne Nat p.1 d) ∧ Off d (ex ++ l) :=
  ⟨fun h => ⟨h p (List.mem_append_right _ (.head _)), fun q hq => h q ((List.mem_append.mp hq).elim (fun x => List.mem_append_left _ x) fun x => List.mem_append_right _ (.tail _ x))⟩,
   fun h q hq => (List.mem_append.mp hq).elim (fun x => h.2 q (List.mem_append_left _ x)) fun x => by
    rcases List.mem_cons.mp x with rfl | x
    · exact h.1
    · exact h.2 q (List.mem_append_right _ x)⟩
/-- paths that meet in one ledger -/
def Meet (h₀ : Heap) (L : Addr) (m : Str → Option Value) (R : Led → Prop) (s : Shared) (f : Flow) (s' : Shared) : Prop := f = .next ∧ ∃ h' tk nw, s' = { s with heap := h', toks := tk } ∧ Fr h₀ L h' m ∧ News h₀ L h' nw ∧ R nw
theorem Meet.intro {h₀ h' : Heap} {L : Addr} {m : Str → Option Value} {R : Led → Prop} {s : Shared} {tk : Nat} {nw all : Led} (F : Fr h₀ L h' m) (N : News h₀ L h' all) (hs : ∀ p ∈ nw, p ∈ all) (hr : R nw) : Meet h₀ L m R s .next { s with heap := h', toks := tk } :=
  ⟨rfl, h', tk, nw, rfl, F, News.sub' N hs, hr⟩
theorem join_led {prog : Program} {w : World} {A : Around} {E : Value → Shared → Prop} {s : Shared} {h₀ : Heap} {L : Addr} {m : Str → Option Value} {news : Led} {t : Sem Flow} {Q : Flow → Shared → Prop} (_F : Fr h₀ L s.heap m) (_N : News h₀ L s.heap news) (R : Led → Prop)
    (h : wpAny (model prog w) A t (Meet h₀ L m R s) E s)
    (hq : ∀ h' tk nw, Fr h₀ L h' m → News h₀ L h' nw → R nw → Q .next { s with heap := h', toks := tk }) : wpAny (model prog w) A t Q E s :=
  wpAny_mono h (fun f s' x => by
    obtain ⟨rfl, h', tk, nw, rfl, F, N, hr⟩ := x
    exact hq _ _ _ F N hr) fun _ _ e => e
theorem blockW_le {n : Nat} {b : BlockD} (hb : BlockOk n b) {k : Int} (h : -1 ≤ k ∧ k ≤ 5) : -1 ≤ blockW k b ∧ blockW k b ≤ 5 := by
  have all : ∀ (l : List StepD), (∀ st ∈ l, st.args.length ≤ 13) → ∀ k : Int, -1 ≤ k ∧ k ≤ 5 → -1 ≤ l.foldl stepW k ∧ l.foldl stepW k ≤ 5 := by
    intro l
    induction l with
    | nil => intro _ k hk; exact hk
    | cons st r ih =>
      intro hl k hk
      refine ih (fun x hx => hl x (.tail _ hx)) _ ?_
      have := hl st (.head _)
      unfold stepW
      split <;> omega
  exact all _ (fun st hst => (hb.2.1 st hst).1.2.2.2.1) k h
theorem funcW_le {d : FuncD} (hok : FuncOk d) : -1 ≤ funcW d ∧ funcW d ≤ 5 := by
  have all : ∀ (l : List BlockD), (∀ b ∈ l, BlockOk d.slots.length b) → ∀ k : Int, -1 ≤ k ∧ k ≤ 5 → -1 ≤ l.foldl blockW k ∧ l.foldl blockW k ≤ 5 := by
    intro l
    induction l with
    | nil => intro _ k hk; exact hk
    | cons b r ih =>
      intro hl k hk
      exact ih (fun x hx => hl x (.tail _ hx)) _ (blockW_le (hl b (.head _)) hk)
  exact all _ hok.2.2.2.2 _ (by omega)
theorem News.finishR {h₀ h : Heap} {L : Addr} {news fr ex r : Led} (N : News h₀ L h news) (P : Rst ex r news fr) : News h₀ L h (ex ++ (fr ++ r)) :=
  News.sub' N fun p hp => by
    rw [P.eq]
    simp only [List.mem_append] at hp ⊢
    rcases hp with h | h | h
    · exact .inr (.inl h)
    · exact .inl h
    · exact .inr (.inr h)
theorem off_cells {x : Addr} {ex r : Led} (h : Off x (ex ++ r)) : ∀ y ∈ ex.map (·.1), x ≠ y := fun y hy => by
  obtain ⟨q, hq, rfl⟩ := List.mem_map.mp hy
  exact Ne.symm (h q (List.mem_append_left _ hq))
theorem rangeSize0 (n : Nat) : Builtin.Range.rangeSize 0 (n : Int) 1 = (n : Int) := by unfold Builtin.Range.rangeSize; simp only [Int.ediv_one]; split <;> (try split) <;> omega
theorem ints_all2 : ∀ {vs : List Value} {ns : List Int}, IntsAre vs ns → All2 IntAt vs ns := by
  intro vs
  induction vs with
  | nil => intro ns h; have := h.length; cases ns with | nil => exact .nil | cons _ _ => simp at this
  | cons v r ih =>
    intro ns h
    have hl := h.length
    cases ns with
    | nil => simp at hl
    | cons n q =>
      obtain ⟨t, ht⟩ := h.get 0 n rfl
      simp at ht
      subst ht
      refine .cons .mk (ih ?_)
      cases h
      assumption
theorem rangeKs_3 {n : Nat} (h : n < 3) : rangeKs 0 n = [] ∨ rangeKs 0 n = [0] ∨ rangeKs 0 n = [0, 1] := by
  have : n = 0 ∨ n = 1 ∨ n = 2 := by omega
  rcases this with rfl | rfl | rfl
  · exact .inl rfl
  · exact .inr (.inl rfl)
  · exact .inr (.inr rfl)
end
section
section
open Sem (wp)
variable {prog : Program} {w : World} {A : Around} {E : Value → Shared → Prop} {s : Shared} {h₀ : Heap} {L : Addr} {m : Str → Option Value} {news : Led}
theorem args_max3 (a b c : Value) : argsOk "max" ⟨[a, b, c], []⟩ := by unfold argsOk; kernel_rfl

theorem max_three {a b c : Int} {t u x : Tok} {Q : Value → Shared → Prop} (hh : A.handled = none) (Fm : Fr h₀ L s.heap m) (N : News h₀ L s.heap news)
    (h : ∀ h' t' tk, Fr h₀ L h' m → News h₀ L h' news → Q (.int (max (max a b) c) t') { s with heap := h', toks := tk }) :
    wpAny (model prog w) A (call (.builtin "max") [.int a t, .int b u, .int c x]) Q E s := by
  have hT : (s.heap.push { cls := .type "tuple", data := .seq #[.int a t, .int b u, .int c x] }).IsTuple s.heap.objs.size (intItems #[(a, t), (b, u), (c, x)]) := ⟨_, Heap.get?_push_size _ rfl, rfl, 0, by simp [intItems]⟩
  have hname : (toString "max" ++ toString ".loop" : String) = "max.loop" := by decide
  have hsz : (s.heap.push { cls := .type "tuple", data := .seq #[.int a t, .int b u, .int c x] }).objs.size = s.heap.objs.size + 1 := Heap.size_push ..
  have fin : ∀ v h' tk, (intItems #[(a, t), (b, u), (c, x)])[argBest (fun i j => decide (numAt #[(a, t), (b, u), (c, x)] i > numAt #[(a, t), (b, u), (c, x)] j)) 2]? = some v →
      (∀ d o, s.heap.get? d = some o → h'.get? d = some o) → Q v { s with heap := h', toks := tk } := by
    intro v h' tk hv hk
    obtain ⟨t', rfl⟩ := intItems_at hv
    obtain ⟨h1, h2⟩ := argBest_gt (numAt #[(a, t), (b, u), (c, x)]) 2
    have e : numAt #[(a, t), (b, u), (c, x)] (argBest (fun i j => decide (numAt #[(a, t), (b, u), (c, x)] i > numAt #[(a, t), (b, u), (c, x)] j)) 2) = max (max a b) c := by
      have e0 := h2 0 (by omega)
      have e1 := h2 1 (by omega)
      have e2 := h2 2 (by omega)
      generalize argBest (fun i j => decide (numAt #[(a, t), (b, u), (c, x)] i > numAt #[(a, t), (b, u), (c, x)] j)) 2 = k at *
      have f0 : numAt #[(a, t), (b, u), (c, x)] 0 = a := rfl
      have f1 : numAt #[(a, t), (b, u), (c, x)] 1 = b := rfl
      have f2 : numAt #[(a, t), (b, u), (c, x)] 2 = c := rfl
      rw [f0] at e0
      rw [f1] at e1
      rw [f2] at e2
      have : k = 0 ∨ k = 1 ∨ k = 2 := by omega
      rcases this with rfl | rfl | rfl
      · rw [f0] at *; omega
      · rw [f1] at *; omega
      · rw [f2] at *; omega
    rw [e]
    exact h _ _ _ (Fm.grownK hk) (N.grown hk)
  refine call_function_tree PySem.F.kind_max PySem.F.plain_max PySem.F.entry_max (args_max3 _ _ _) ?_
  show wpAny _ A.in1 (Builtin.Builtins.bindParams "max" ["key", "default"] 0 ⟨[], []⟩ >>= _) _ _ s
  refine wpAny_bind (wpAny_of_eq (show Builtin.Builtins.bindParams "max" ["key", "default"] 0 ⟨[], []⟩ = pure [none, none] from rfl) ?_)
  show wpAny _ A.in1 (newTuple [.int a t, .int b u, .int c x] >>= _) _ _ s
  refine wpAny_bind (wpAny_newObj_type ?_)
  refine wpAny_bind (wpAny_pyIter_tuple hT ?_)
  generalize hH1 : s.heap.push { cls := .type "tuple", data := .seq #[.int a t, .int b u, .int c x] } = H1 at hT hsz ⊢
  have up : ∀ d o, s.heap.get? d = some o → H1.get? d = some o := fun d o e => hH1 ▸ Heap.get?_push_of_some _ e
  have hT2 := hT.push { cls := .type "tuple_iterator", data := .fields #[.ref s.heap.objs.size, .int 0 0] }
  have hsz2 : (H1.push { cls := .type "tuple_iterator", data := .fields #[.ref s.heap.objs.size, .int 0 0] }).objs.size = H1.objs.size + 1 := Heap.size_push ..
  refine wpAny_bind (wpAny_newObj_type ?_)
  rw [hname]
  refine wpAny_pure ⟨plainId_quiet PySem.F.plain_max_loop _, codeAny_max_loop_first (Walks.tuple (A := A.in1) hh H1.objs.size s.heap.objs.size (by rw [hsz]; exact Nat.ne_of_lt (Nat.lt_succ_self _)) (intItems #[(a, t), (b, u), (c, x)])) _
    (CmpOf.ints_gt (numAt #[(a, t), (b, u), (c, x)]) (fun _ _ => intItems_at)) _ ?_ (by simp [intItems]) ⟨⟨_, Heap.get?_push_of_some _ (Heap.get?_push_size _ rfl), rfl, rfl⟩, hT2.push _⟩ (Heap.get?_push_size _ rfl) fun v h' tk hP hk => ?_⟩
  · intro hm
    rcases List.mem_cons.mp hm with e | hm
    · exact absurd e (by show (H1.push _).objs.size ≠ H1.objs.size; rw [hsz2]; exact Nat.succ_ne_self _)
    · have := List.mem_singleton.mp hm
      have h3 : _ = s.heap.objs.size + 1 + 1 := hsz2.trans (congrArg (· + 1) hsz)
      exact absurd (this.symm.trans h3) (Nat.ne_of_lt (by omega))
  · refine fin v h' tk (by simpa [intItems] using hP) fun d o e => ?_
    have hd := Heap.lt_size e
    refine hk d o (fun hm => ?_) ?_ (Heap.get?_push_of_some _ (Heap.get?_push_of_some _ (up d o e)))
    · have := List.mem_singleton.mp hm
      rw [hsz] at this
      have hd2 : s.heap.objs.size + 1 < s.heap.objs.size := this ▸ hd
      exact absurd hd2 (Nat.not_lt.mpr (Nat.le_succ _))
    · have h3 : _ = s.heap.objs.size + 1 + 1 := hsz2.trans (congrArg (· + 1) hsz)
      intro e2
      have hd2 : s.heap.objs.size + 1 + 1 < s.heap.objs.size := (e2.trans h3) ▸ hd
      exact absurd hd2 (Nat.not_lt.mpr (Nat.le_trans (Nat.le_succ _) (Nat.le_succ _)))
theorem m_eqstr_ne {x y : Str} {t u : Tok} {Q : Value → Shared → Prop} (h : (x = y) = False) (hq : Q (.bool false) s) : wpAny (model prog w) A (compareOp .Eq (.str x t) (.str y u)) Q E s :=
  eq_str (by rw [show (x == y) = false from by simp [h]]; exact hq)
theorem take_all2 {α β : Type} {R : α → β → Prop} {l : List α} {l' : List β} (h : All2 R l l') : l'.take l.length = l' := by rw [h.length, List.take_length]
end
end
local macro_rules | `(tactic| walk_at "call builtin:max") => `(tactic| (k_here; (with_reducible show wpAny _ _ (call (Value.builtin "max") [Value.int _ _, Value.int _ _, Value.int _ _]) _ _ _); k_dflt (refine' max_three ?k1 ?k2 ?k3 ?_; (case k1 => rfl); (case k2 => k_asm); (case k3 => k_asm)); intro h9 t9 tk9 F9 N9; (try k_sweep)))
section
section

local macro_rules | `(tactic| walk_at "m_x") => `(tactic| skip)
theorem outgoing (w : World) (v : Value) (d : FuncD) : ReadSpec w 28 2 (fun news => FuncAt news v d ∧ FuncOk d) [v] (fun r => ∃ t, r = .int (funcW d) t) := by
  w_top off
  k_with_none
  k_with "m_rst" => first | (with_reducible apply Rst.nil) | (with_reducible apply Rst.cons; k_extra "m_rst")
  k_with "m_pick" => first | (with_reducible apply Pick.head; k_extra "m_rst") | (with_reducible apply Pick.tail; k_extra "m_pick")
  k_with "m_draw" => (
  (case N => k_asm); (case P => k_extra "m_pick"); (case B => k_asm); (case F => k_asm); (case X => k_asm);
  (case off => ((try simp only [List.nil_append, List.cons_append]); k_all)); (case T => k_asm); (case k => first | exact rfl | assumption); (case W => assumption); (case I => assumption);
  (case b => omega); (case d => ktr_room); (case u => ktr_units))
  k_with "m_al" => first | assumption | exact And.right (by assumption) | exact And.right (And.right (by assumption)) | exact And.right (And.right (And.right (by assumption))) | exact And.right (And.right (And.right (And.right (by assumption)))) | exact And.right (And.right (And.right (And.right (And.right (by assumption))))) | exact And.right (And.right (And.right (And.right (And.right (And.right (by assumption)))))) | exact And.right (And.right (And.right (And.right (And.right (And.right (And.right (by assumption))))))) | exact And.right (And.right (And.right (And.right (And.right (And.right (And.right (And.right (by assumption)))))))) | exact And.right (And.right (And.right (And.right (And.right (And.right (And.right (And.right (And.right (by assumption))))))))) | exact And.right (And.right (And.right (And.right (And.right (And.right (And.right (And.right (And.right (And.right (by assumption)))))))))) | exact And.right (And.right (And.right (And.right (And.right (And.right (And.right (And.right (And.right (And.right (And.right (by assumption))))))))))) | exact And.right (And.right (And.right (And.right (And.right (And.right (And.right (And.right (And.right (And.right (And.right (And.right (by assumption)))))))))))) | exact And.right (And.right (And.right (And.right (And.right (And.right (And.right (And.right (And.right (And.right (And.right (And.right (And.right (by assumption))))))))))))) | exact And.right (And.right (And.right (And.right (And.right (And.right (And.right (And.right (And.right (And.right (And.right (And.right (And.right (And.right (by assumption)))))))))))))) | exact And.right (And.right (And.right (And.right (And.right (And.right (And.right (And.right (And.right (And.right (And.right (And.right (And.right (And.right (And.right (by assumption))))))))))))))) | exact And.right (And.right (And.right (And.right (And.right (And.right (And.right (And.right (And.right (And.right (And.right (And.right (And.right (And.right (And.right (And.right (by assumption)))))))))))))))) | exact And.right (And.right (And.right (And.right (And.right (And.right (And.right (And.right (And.right (And.right (And.right (And.right (And.right (And.right (And.right (And.right (And.right (by assumption))))))))))))))))) | exact And.right (And.right (And.right (And.right (And.right (And.right (And.right (And.right (And.right (And.right (And.right (And.right (And.right (And.right (And.right (And.right (And.right (And.right (by assumption)))))))))))))))))) | exact AllLt.up (by assumption) (by k_extra "m_al")
  k_with "m_cells" => first | k_extra "m_cellsG" | (simp only [List.map_append, List.map_cons, List.cons_append, List.nil_append, List.mem_cons, List.map_nil, List.mem_append]; intro x hx; first | assumption | (rcases hx with hx | hx <;> simp only [hx, true_or, or_true]))
  k_with "m_grow" => first | (with_reducible exact Grow.refl) | (with_reducible refine Grow.add ?_ ?_; k_extra "m_grow"; exact cellsNe (by first | k_extra "m_lt" | omega) (by k_extra "m_al")) | (with_reducible refine Grow.transR (by assumption) ?_ ?_; k_extra "m_cells"; k_extra "m_grow")
  k_with "m_cell1" => (simp only [List.map_append, List.map_cons, List.cons_append, List.nil_append, List.mem_cons, List.map_nil, List.mem_append, true_or, or_true]; done)
  k_with "m_mem" => first | exact List.Mem.head _ | (refine List.Mem.tail _ ?_; k_extra "m_mem")
  k_with "m_sub" => (intro p hp; simp only [List.mem_cons, hp, or_true])
  k_with "m_ctx" => ((case N => k_asm); (case B => k_asm); (case F => k_asm); (case X => k_asm); (case T => k_asm); (case k => first | exact rfl | assumption); (case d => ktr_room); (case u => ktr_units))
  k_with "m_subR" => (intro p hp; simp only [List.mem_cons, List.mem_append, hp, or_true])
  k_with "m_memT" => first | assumption | exact List.Mem.head _ | (refine List.Mem.tail _ ?_; k_extra "m_memT")
  k_with "m_mq" => first | (with_reducible exact List.mem_cons_self) | ((with_reducible refine List.mem_cons_of_mem _ ?_); k_extra "m_mq") | ((with_reducible refine List.mem_append_left _ ?_); k_extra "m_mq") | ((with_reducible refine List.mem_append_right _ ?_); k_extra "m_mq") | (with_reducible assumption)
  k_with "m_sq" => first | (with_reducible exact fa_self) | ((with_reducible refine fa_tail ?_); k_extra "m_sq") | ((with_reducible refine fa_left ?_); k_extra "m_sq") | ((with_reducible refine fa_right ?_); k_extra "m_sq") | (with_reducible assumption)
  k_with "m_perm" => ((repeat' (with_reducible first | refine fa_cons ?_ ?_ | refine fa_app ?_ ?_ | exact fa_nil)); all_goals (first | k_extra "m_mq" | k_extra "m_sq"))
  k_with "m_cellsG" => ((try simp only [List.cons_append, List.nil_append, List.map_cons, List.map_append]); k_extra "m_perm")
  k_with "exec Assign cons ListComp" => walk_at "exec Assign"
  k_with "m_lt" => first | (with_reducible exact Nat.lt_succ_self _) | ((with_reducible refine Nat.lt_succ_of_lt ?_); k_extra "m_lt") | (with_reducible assumption) | (with_reducible exact And.left (by assumption)) | (with_reducible exact And.left (And.right (by assumption))) | (with_reducible exact And.left (And.right (And.right (by assumption)))) | (with_reducible exact And.left (And.right (And.right (And.right (by assumption))))) | (with_reducible exact And.left (And.right (And.right (And.right (And.right (by assumption)))))) | (with_reducible exact And.left (And.right (And.right (And.right (And.right (And.right (by assumption))))))) | (with_reducible exact And.left (And.right (And.right (And.right (And.right (And.right (And.right (by assumption)))))))) | (with_reducible exact And.left (And.right (And.right (And.right (And.right (And.right (And.right (And.right (by assumption))))))))) | (with_reducible exact And.left (And.right (And.right (And.right (And.right (And.right (And.right (And.right (And.right (by assumption)))))))))) | (with_reducible exact And.right (by assumption)) | (with_reducible exact And.right (And.right (by assumption))) | (with_reducible exact And.right (And.right (And.right (by assumption)))) | (with_reducible exact And.right (And.right (And.right (And.right (by assumption))))) | ((with_reducible refine Nat.lt_trans ?_ (by assumption)); k_extra "m_lt")
  k_with "m_ne" => first | (with_reducible assumption) | (with_reducible exact Ne.symm (by assumption)) | (with_reducible exact Ne.symm (And.left (by assumption))) | (with_reducible exact Ne.symm (And.left (And.right (by assumption)))) | (with_reducible exact And.left (by assumption)) | (with_reducible exact And.left (And.right (by assumption))) | exact Nat.ne_of_gt (by k_extra "m_lt") | exact Nat.ne_of_lt (by k_extra "m_lt") | omega
  k_with "m_rm" => first | (with_reducible exact room1 (by assumption) (Nat.le_of_ble_eq_true rfl)) | (with_reducible exact room2 (by assumption) (Nat.le_of_ble_eq_true rfl)) | (with_reducible exact room3 (by assumption) (Nat.le_of_ble_eq_true rfl)) | ((simp only [depth_under_make, depth_under_kw, depth_in1, depth_deeper, depth_caller, units_in1, units_deeper, Around.mark_units, units_caller]); (try dsimp only [ktrTop]); first | (with_reducible exact room1 (by assumption) (Nat.le_of_ble_eq_true rfl)) | (with_reducible exact room2 (by assumption) (Nat.le_of_ble_eq_true rfl)) | (with_reducible exact room3 (by assumption) (Nat.le_of_ble_eq_true rfl)))
  k_with "call builtin:len" => (k_here; (with_reducible show wpAny _ _ (call (Value.builtin "len") [Value.ref _]) _ _ _); k_dflt (refine' m_len (by k_asm) (by k_mem) (by omega) ?_; intro _ _))
  k_with "compareOp Eq str str" => (refine m_eqstr_ne (by assumption) ?_)
  k_with "eval Name" => (k_here; k_dflt (refine' ld (by k_asm) (by assumption) ?_; k_whole))
  k_with "exec For Name Attribute cons nil" => (k_here; walk_at "m_kF"; with_unfolding_all refine For_invTF (by first | with_reducible assumption | assumption) ?_ (by intro _; rfl))
  k_with "pyIter ref" => ((with_reducible show wpAny _ _ (pyIter (Value.ref _)) (fun it s₂ => LoopAtT _ _ _ _ _ _ _ _ _ it s₂) _ _); refine hold ?_)
  (have kf : PySem.Challenge.rw_nm0006_01.Holds → Mine.hd.heap_39 w.params = Mine.hd.heap_39 w.params := by k_fill; intro; rfl); clear kf
  intro dp un gd cn cs a ccd cl outer A₀ base h₀ L m mean mg mb news s Q E B F X N T hk hpre hd hu hret
  obtain ⟨hf, hok⟩ := hpre
  obtain @⟨x, dx, bl, _, _, _, _, _, _, _, _, _, _, _, _, _, _, _, vn, vp, vs, _, bvs, bn, hx, hdx, hp, hs, hbl, hb2⟩ := hf
  refine wpAny_call ?_
  k_dflt ktr_enter
  k_steps
  rename_i g' L' h1' FG B1 X1 T1 h2' F1 N1
  unfold Hold
  refine iter_list (l := bl) (vs := bvs) (n₀ := bn) (fun i m₁ nw => news = nw ∧ ∃ t, m₁ (Str.ofString "most") = some (.int ((d.blocks.take i).foldl blockW (-1)) t)) (by rfl) F1 N1 ?hm ?hj ?turn ?done
  case hm => rintro i m₁ nw ⟨rfl, _⟩; exact hbl
  case hj => exact ⟨rfl, _, rfl⟩
  case turn =>
    rintro i v m₁ nw s₁ I oI hv ⟨rfl, t, hmost⟩ off F2 N2
    clear F1 N1
    obtain ⟨b, hb, hB⟩ := hb2.get hv
    rw [foldl_take _ _ hb]
    generalize (d.blocks.take i).foldl blockW (-1) = k at hmost ⊢
    obtain @⟨x2, dx2, sl, _, _, _, _, _, _, vn2, ve2, _, svs, sn, hx2, hdx2, hsl, hs2, hfin⟩ := hB
    k_steps
    rename_i h3' F3 N3
    unfold Hold
    clear F2 N2
    refine iter_list (l := sl) (vs := svs) (n₀ := sn) (fun i m₁ nw => nw = (I, oI) :: news ∧ ∃ t, m₁ (Str.ofString "most") = some (.int ((b.steps.take i).foldl stepW k) t)) (by rfl) F3 N3 ?hm2 ?hj2 ?turn2 ?done2
    case hm2 => rintro i m₁ nw ⟨rfl, _⟩; exact .tail _ hsl
    case hj2 => exact ⟨rfl, _, hmost⟩
    case turn2 =>
      rintro j v m₂ nw s₂ I2 oI2 hv ⟨rfl, t, hmost⟩ off2 F4 N4
      clear F3 N3
      obtain ⟨st, hst, hS⟩ := hs2.get hv
      rw [foldl_take _ _ hst]
      generalize (b.steps.take j).foldl stepW k = k2 at hmost ⊢
      obtain @⟨x3, dx3, al, _, _, _, _, _, _, _, _, _, _, _, _, _, _, _, vm, _, avs, an, hx3, hdx3, hal, ha2, -⟩ := hS
      have hlen : avs.length = st.args.length := ha2.length
      have hargs : st.args.length ≤ 13 := ((hok.2.2.2.2 b (List.mem_of_getElem? hb)).2.1 st (List.mem_of_getElem? hst)).1.2.2.2.1
      rcases kind_cases st.kind with hk1 | hk1 | ⟨hk1, hk2, hk3⟩
      · have hW : stepW k2 st = max (max k2 0) ((avs.length : Int) - 8) := by unfold stepW; rw [hk1, hlen]
        rw [hk1] at hdx3
        rw [hW]
        k_steps
        exact TurnEnd.intro (by assumption) (by assumption) (fun p hp => hp) off2 ⟨rfl, _, rfl⟩
      · have hW : stepW k2 st = max (max k2 0) ((avs.length : Int) - 1 - 8) := by unfold stepW; rw [hk1, hlen]
        rw [hk1] at hdx3
        rw [hW]
        k_steps
        exact TurnEnd.intro (by assumption) (by assumption) (fun p hp => hp) off2 ⟨rfl, _, rfl⟩
      · have hW : stepW k2 st = k2 := hk3 _ _ rfl
        generalize st.kind.str = ops at hk1 hk2 hdx3
        rw [hW]
        k_steps
        exact TurnEnd.intro (by assumption) (by assumption) (fun p hp => hp) off2 ⟨rfl, _, by exact hmost⟩
    case done2 =>
      rintro m₂ nw h tk ⟨rfl, t2, hmost2⟩ F4 N4
      rw [take_all2 hs2] at hmost2
      clear F3 N3
      k_steps
      exact TurnEnd.intro (by assumption) (by assumption) (fun p hp => hp) off ⟨rfl, _, by exact hmost2⟩
  case done =>
    rintro m₂ nw h tk ⟨rfl, t2, hmost2⟩ F4 N4
    rw [take_all2 hb2] at hmost2
    clear F1 N1
    k_steps
    exact hret _ _ _ (by assumption) (by assumption) ⟨_, rfl⟩
end
end
section
section
theorem rounded (w : World) (n a : Int) (t u : Tok) : ReadSpec w 21 2 (fun _ => 1 ≤ a ∧ a ≤ 16 ∧ 0 ≤ n ∧ n ≤ 10000) [.int n t, .int a u] (fun r => ∃ t, r = .int (roundI n a) t) := by
  w_top off
  k_with_none
  k_with "m_rst" => first | (with_reducible apply Rst.nil) | (with_reducible apply Rst.cons; k_extra "m_rst")
  k_with "m_pick" => first | (with_reducible apply Pick.head; k_extra "m_rst") | (with_reducible apply Pick.tail; k_extra "m_pick")
  k_with "m_draw" => (
  (case N => k_asm); (case P => k_extra "m_pick"); (case B => k_asm); (case F => k_asm); (case X => k_asm);
  (case off => ((try simp only [List.nil_append, List.cons_append]); k_all)); (case T => k_asm); (case k => first | exact rfl | assumption); (case W => assumption); (case I => assumption);
  (case b => omega); (case d => ktr_room); (case u => ktr_units))
  k_with "m_al" => first | assumption | exact And.right (by assumption) | exact And.right (And.right (by assumption)) | exact And.right (And.right (And.right (by assumption))) | exact And.right (And.right (And.right (And.right (by assumption)))) | exact And.right (And.right (And.right (And.right (And.right (by assumption))))) | exact And.right (And.right (And.right (And.right (And.right (And.right (by assumption)))))) | exact And.right (And.right (And.right (And.right (And.right (And.right (And.right (by assumption))))))) | exact And.right (And.right (And.right (And.right (And.right (And.right (And.right (And.right (by assumption)))))))) | exact And.right (And.right (And.right (And.right (And.right (And.right (And.right (And.right (And.right (by assumption))))))))) | exact And.right (And.right (And.right (And.right (And.right (And.right (And.right (And.right (And.right (And.right (by assumption)))))))))) | exact And.right (And.right (And.right (And.right (And.right (And.right (And.right (And.right (And.right (And.right (And.right (by assumption))))))))))) | exact And.right (And.right (And.right (And.right (And.right (And.right (And.right (And.right (And.right (And.right (And.right (And.right (by assumption)))))))))))) | exact And.right (And.right (And.right (And.right (And.right (And.right (And.right (And.right (And.right (And.right (And.right (And.right (And.right (by assumption))))))))))))) | exact And.right (And.right (And.right (And.right (And.right (And.right (And.right (And.right (And.right (And.right (And.right (And.right (And.right (And.right (by assumption)))))))))))))) | exact And.right (And.right (And.right (And.right (And.right (And.right (And.right (And.right (And.right (And.right (And.right (And.right (And.right (And.right (And.right (by assumption))))))))))))))) | exact And.right (And.right (And.right (And.right (And.right (And.right (And.right (And.right (And.right (And.right (And.right (And.right (And.right (And.right (And.right (And.right (by assumption)))))))))))))))) | exact And.right (And.right (And.right (And.right (And.right (And.right (And.right (And.right (And.right (And.right (And.right (And.right (And.right (And.right (And.right (And.right (And.right (by assumption))))))))))))))))) | exact And.right (And.right (And.right (And.right (And.right (And.right (And.right (And.right (And.right (And.right (And.right (And.right (And.right (And.right (And.right (And.right (And.right (And.right (by assumption)))))))))))))))))) | exact AllLt.up (by assumption) (by k_extra "m_al")
  k_with "m_cells" => first | k_extra "m_cellsG" | (simp only [List.map_append, List.map_cons, List.cons_append, List.nil_append, List.mem_cons, List.map_nil, List.mem_append]; intro x hx; first | assumption | (rcases hx with hx | hx <;> simp only [hx, true_or, or_true]))
  k_with "m_grow" => first | (with_reducible exact Grow.refl) | (with_reducible refine Grow.add ?_ ?_; k_extra "m_grow"; exact cellsNe (by first | k_extra "m_lt" | omega) (by k_extra "m_al")) | (with_reducible refine Grow.transR (by assumption) ?_ ?_; k_extra "m_cells"; k_extra "m_grow")
  k_with "m_cell1" => (simp only [List.map_append, List.map_cons, List.cons_append, List.nil_append, List.mem_cons, List.map_nil, List.mem_append, true_or, or_true]; done)
  k_with "m_mem" => first | exact List.Mem.head _ | (refine List.Mem.tail _ ?_; k_extra "m_mem")
  k_with "m_sub" => (intro p hp; simp only [List.mem_cons, hp, or_true])
  k_with "m_ctx" => ((case N => k_asm); (case B => k_asm); (case F => k_asm); (case X => k_asm); (case T => k_asm); (case k => first | exact rfl | assumption); (case d => ktr_room); (case u => ktr_units))
  k_with "m_subR" => (intro p hp; simp only [List.mem_cons, List.mem_append, hp, or_true])
  k_with "m_memT" => first | assumption | exact List.Mem.head _ | (refine List.Mem.tail _ ?_; k_extra "m_memT")
  k_with "m_mq" => first | (with_reducible exact List.mem_cons_self) | ((with_reducible refine List.mem_cons_of_mem _ ?_); k_extra "m_mq") | ((with_reducible refine List.mem_append_left _ ?_); k_extra "m_mq") | ((with_reducible refine List.mem_append_right _ ?_); k_extra "m_mq") | (with_reducible assumption)
  k_with "m_sq" => first | (with_reducible exact fa_self) | ((with_reducible refine fa_tail ?_); k_extra "m_sq") | ((with_reducible refine fa_left ?_); k_extra "m_sq") | ((with_reducible refine fa_right ?_); k_extra "m_sq") | (with_reducible assumption)
  k_with "m_perm" => ((repeat' (with_reducible first | refine fa_cons ?_ ?_ | refine fa_app ?_ ?_ | exact fa_nil)); all_goals (first | k_extra "m_mq" | k_extra "m_sq"))
  k_with "m_cellsG" => ((try simp only [List.cons_append, List.nil_append, List.map_cons, List.map_append]); k_extra "m_perm")
  k_with "exec Assign cons ListComp" => walk_at "exec Assign"
  k_with "m_lt" => first | (with_reducible exact Nat.lt_succ_self _) | ((with_reducible refine Nat.lt_succ_of_lt ?_); k_extra "m_lt") | (with_reducible assumption) | (with_reducible exact And.left (by assumption)) | (with_reducible exact And.left (And.right (by assumption))) | (with_reducible exact And.left (And.right (And.right (by assumption)))) | (with_reducible exact And.left (And.right (And.right (And.right (by assumption))))) | (with_reducible exact And.left (And.right (And.right (And.right (And.right (by assumption)))))) | (with_reducible exact And.left (And.right (And.right (And.right (And.right (And.right (by assumption))))))) | (with_reducible exact And.left (And.right (And.right (And.right (And.right (And.right (And.right (by assumption)))))))) | (with_reducible exact And.left (And.right (And.right (And.right (And.right (And.right (And.right (And.right (by assumption))))))))) | (with_reducible exact And.left (And.right (And.right (And.right (And.right (And.right (And.right (And.right (And.right (by assumption)))))))))) | (with_reducible exact And.right (by assumption)) | (with_reducible exact And.right (And.right (by assumption))) | (with_reducible exact And.right (And.right (And.right (by assumption)))) | (with_reducible exact And.right (And.right (And.right (And.right (by assumption))))) | ((with_reducible refine Nat.lt_trans ?_ (by assumption)); k_extra "m_lt")
  k_with "m_ne" => first | (with_reducible assumption) | (with_reducible exact Ne.symm (by assumption)) | (with_reducible exact Ne.symm (And.left (by assumption))) | (with_reducible exact Ne.symm (And.left (And.right (by assumption)))) | (with_reducible exact And.left (by assumption)) | (with_reducible exact And.left (And.right (by assumption))) | exact Nat.ne_of_gt (by k_extra "m_lt") | exact Nat.ne_of_lt (by k_extra "m_lt") | omega
  k_with "m_rm" => first | (with_reducible exact room1 (by assumption) (Nat.le_of_ble_eq_true rfl)) | (with_reducible exact room2 (by assumption) (Nat.le_of_ble_eq_true rfl)) | (with_reducible exact room3 (by assumption) (Nat.le_of_ble_eq_true rfl)) | ((simp only [depth_under_make, depth_under_kw, depth_in1, depth_deeper, depth_caller, units_in1, units_deeper, Around.mark_units, units_caller]); (try dsimp only [ktrTop]); first | (with_reducible exact room1 (by assumption) (Nat.le_of_ble_eq_true rfl)) | (with_reducible exact room2 (by assumption) (Nat.le_of_ble_eq_true rfl)) | (with_reducible exact room3 (by assumption) (Nat.le_of_ble_eq_true rfl)))
  (have kf : PySem.Challenge.rw_nm0006_01.Holds → Mine.hd.heap_39 w.params = Mine.hd.heap_39 w.params := by k_fill; intro; rfl); clear kf
  intro dp un gd cn cs a' ccd cl outer A₀ base h₀ L m mean mg mb news s Q E B F X N T hk hpre hd hu hret
  obtain ⟨ha, ha2, hn, hn2⟩ := hpre
  refine wpAny_call ?_
  k_dflt ktr_enter
  k_steps
  exact hret _ _ _ (by assumption) (by assumption) ⟨_, rfl⟩
end
end
section
section
abbrev frameDict (h1 h2 h3 : Int) (t1 t2 t3 : Tok) (a b c : Value) : Obj :=
  dictOf [⟨h1, .str (Str.ofString "size") t1, a⟩, ⟨h2, .str (Str.ofString "kept") t2, b⟩, ⟨h3, .str (Str.ofString "slots") t3, c⟩] 3
theorem mkFrame {w : World} {dp un : Nat} {gd : Option (List Code)} {cn : Str} {cs : Scope} {a : Addr} {ccd : Value} {cl : List (Str × Addr)} {outer : List Env} {A₀ : Around} {base h₀ : Heap} {L : Addr} {m : Str → Option Value} {mean : ExcName → Option Value} {mg mb : Str → Option Value}
    {news : Led} {s : Shared} {Q E : Value → Shared → Prop} {v1 v2 v3 : Value} (B : Below A₀ base outer h₀) (F : Fr h₀ L s.heap m) (X : (Mine.hd.heap_39 w.params).In h₀) (N : News h₀ L s.heap news) (T : Top Mine.hd.view_39 (looseW Mine.hd.view_39 [Str.ofString "ACCESSES"]) mean mg mb h₀) (hk : cs.kind = .function)
    (hd : dp + 3 < recursionLimit) (_hu : un + 60 < cLine)
    (hret : ∀ x dx h1 h2 h3 t1 t2 t3 h' tk', Fr h₀ L h' m → News h₀ L h' ((x, instObj 52 dx) :: (dx, frameDict h1 h2 h3 t1 t2 t3 v1 v2 v3) :: news) → (∀ p ∈ news, p.1 < dx) → dx < x → Q (.ref x) { s with heap := h', toks := tk' }) :
    wpAny (model PySem.Challenge.rw_nm0006_01.row.prog w) (ktrTop dp un gd cn cs L a ccd cl outer) (call (.ref 52) [v1, v2, v3]) Q E s := by
  w_top off
  k_with_none
  k_with "m_rst" => first | (with_reducible apply Rst.nil) | (with_reducible apply Rst.cons; k_extra "m_rst")
  k_with "m_pick" => first | (with_reducible apply Pick.head; k_extra "m_rst") | (with_reducible apply Pick.tail; k_extra "m_pick")
  k_with "m_draw" => (
  (case N => k_asm); (case P => k_extra "m_pick"); (case B => k_asm); (case F => k_asm); (case X => k_asm);
  (case off => ((try simp only [List.nil_append, List.cons_append]); k_all)); (case T => k_asm); (case k => first | exact rfl | assumption); (case W => assumption); (case I => assumption);
  (case b => omega); (case d => ktr_room); (case u => ktr_units))
  k_with "m_al" => first | assumption | exact And.right (by assumption) | exact And.right (And.right (by assumption)) | exact And.right (And.right (And.right (by assumption))) | exact And.right (And.right (And.right (And.right (by assumption)))) | exact And.right (And.right (And.right (And.right (And.right (by assumption))))) | exact And.right (And.right (And.right (And.right (And.right (And.right (by assumption)))))) | exact And.right (And.right (And.right (And.right (And.right (And.right (And.right (by assumption))))))) | exact And.right (And.right (And.right (And.right (And.right (And.right (And.right (And.right (by assumption)))))))) | exact And.right (And.right (And.right (And.right (And.right (And.right (And.right (And.right (And.right (by assumption))))))))) | exact And.right (And.right (And.right (And.right (And.right (And.right (And.right (And.right (And.right (And.right (by assumption)))))))))) | exact And.right (And.right (And.right (And.right (And.right (And.right (And.right (And.right (And.right (And.right (And.right (by assumption))))))))))) | exact And.right (And.right (And.right (And.right (And.right (And.right (And.right (And.right (And.right (And.right (And.right (And.right (by assumption)))))))))))) | exact And.right (And.right (And.right (And.right (And.right (And.right (And.right (And.right (And.right (And.right (And.right (And.right (And.right (by assumption))))))))))))) | exact And.right (And.right (And.right (And.right (And.right (And.right (And.right (And.right (And.right (And.right (And.right (And.right (And.right (And.right (by assumption)))))))))))))) | exact And.right (And.right (And.right (And.right (And.right (And.right (And.right (And.right (And.right (And.right (And.right (And.right (And.right (And.right (And.right (by assumption))))))))))))))) | exact And.right (And.right (And.right (And.right (And.right (And.right (And.right (And.right (And.right (And.right (And.right (And.right (And.right (And.right (And.right (And.right (by assumption)))))))))))))))) | exact And.right (And.right (And.right (And.right (And.right (And.right (And.right (And.right (And.right (And.right (And.right (And.right (And.right (And.right (And.right (And.right (And.right (by assumption))))))))))))))))) | exact And.right (And.right (And.right (And.right (And.right (And.right (And.right (And.right (And.right (And.right (And.right (And.right (And.right (And.right (And.right (And.right (And.right (And.right (by assumption)))))))))))))))))) | exact AllLt.up (by assumption) (by k_extra "m_al")
  k_with "m_cells" => first | k_extra "m_cellsG" | (simp only [List.map_append, List.map_cons, List.cons_append, List.nil_append, List.mem_cons, List.map_nil, List.mem_append]; intro x hx; first | assumption | (rcases hx with hx | hx <;> simp only [hx, true_or, or_true]))
  k_with "m_grow" => first | (with_reducible exact Grow.refl) | (with_reducible refine Grow.add ?_ ?_; k_extra "m_grow"; exact cellsNe (by first | k_extra "m_lt" | omega) (by k_extra "m_al")) | (with_reducible refine Grow.transR (by assumption) ?_ ?_; k_extra "m_cells"; k_extra "m_grow")
  k_with "m_cell1" => (simp only [List.map_append, List.map_cons, List.cons_append, List.nil_append, List.mem_cons, List.map_nil, List.mem_append, true_or, or_true]; done)
  k_with "m_mem" => first | exact List.Mem.head _ | (refine List.Mem.tail _ ?_; k_extra "m_mem")
  k_with "m_sub" => (intro p hp; simp only [List.mem_cons, hp, or_true])
  k_with "m_ctx" => ((case N => k_asm); (case B => k_asm); (case F => k_asm); (case X => k_asm); (case T => k_asm); (case k => first | exact rfl | assumption); (case d => ktr_room); (case u => ktr_units))
  k_with "m_subR" => (intro p hp; simp only [List.mem_cons, List.mem_append, hp, or_true])
  k_with "m_memT" => first | assumption | exact List.Mem.head _ | (refine List.Mem.tail _ ?_; k_extra "m_memT")
  k_with "m_mq" => first | (with_reducible exact List.mem_cons_self) | ((with_reducible refine List.mem_cons_of_mem _ ?_); k_extra "m_mq") | ((with_reducible refine List.mem_append_left _ ?_); k_extra "m_mq") | ((with_reducible refine List.mem_append_right _ ?_); k_extra "m_mq") | (with_reducible assumption)
  k_with "m_sq" => first | (with_reducible exact fa_self) | ((with_reducible refine fa_tail ?_); k_extra "m_sq") | ((with_reducible refine fa_left ?_); k_extra "m_sq") | ((with_reducible refine fa_right ?_); k_extra "m_sq") | (with_reducible assumption)
  k_with "m_perm" => ((repeat' (with_reducible first | refine fa_cons ?_ ?_ | refine fa_app ?_ ?_ | exact fa_nil)); all_goals (first | k_extra "m_mq" | k_extra "m_sq"))
  k_with "m_cellsG" => ((try simp only [List.cons_append, List.nil_append, List.map_cons, List.map_append]); k_extra "m_perm")
  k_with "exec Assign cons ListComp" => walk_at "exec Assign"
  k_with "m_lt" => first | (with_reducible exact Nat.lt_succ_self _) | ((with_reducible refine Nat.lt_succ_of_lt ?_); k_extra "m_lt") | (with_reducible assumption) | (with_reducible exact And.left (by assumption)) | (with_reducible exact And.left (And.right (by assumption))) | (with_reducible exact And.left (And.right (And.right (by assumption)))) | (with_reducible exact And.left (And.right (And.right (And.right (by assumption))))) | (with_reducible exact And.left (And.right (And.right (And.right (And.right (by assumption)))))) | (with_reducible exact And.left (And.right (And.right (And.right (And.right (And.right (by assumption))))))) | (with_reducible exact And.left (And.right (And.right (And.right (And.right (And.right (And.right (by assumption)))))))) | (with_reducible exact And.left (And.right (And.right (And.right (And.right (And.right (And.right (And.right (by assumption))))))))) | (with_reducible exact And.left (And.right (And.right (And.right (And.right (And.right (And.right (And.right (And.right (by assumption)))))))))) | (with_reducible exact And.right (by assumption)) | (with_reducible exact And.right (And.right (by assumption))) | (with_reducible exact And.right (And.right (And.right (by assumption)))) | (with_reducible exact And.right (And.right (And.right (And.right (by assumption))))) | ((with_reducible refine Nat.lt_trans ?_ (by assumption)); k_extra "m_lt")
  k_with "m_ne" => first | (with_reducible assumption) | (with_reducible exact Ne.symm (by assumption)) | (with_reducible exact Ne.symm (And.left (by assumption))) | (with_reducible exact Ne.symm (And.left (And.right (by assumption)))) | (with_reducible exact And.left (by assumption)) | (with_reducible exact And.left (And.right (by assumption))) | exact Nat.ne_of_gt (by k_extra "m_lt") | exact Nat.ne_of_lt (by k_extra "m_lt") | omega
  k_with "m_rm" => first | (with_reducible exact room1 (by assumption) (Nat.le_of_ble_eq_true rfl)) | (with_reducible exact room2 (by assumption) (Nat.le_of_ble_eq_true rfl)) | (with_reducible exact room3 (by assumption) (Nat.le_of_ble_eq_true rfl)) | ((simp only [depth_under_make, depth_under_kw, depth_in1, depth_deeper, depth_caller, units_in1, units_deeper, Around.mark_units, units_caller]); (try dsimp only [ktrTop]); first | (with_reducible exact room1 (by assumption) (Nat.le_of_ble_eq_true rfl)) | (with_reducible exact room2 (by assumption) (Nat.le_of_ble_eq_true rfl)) | (with_reducible exact room3 (by assumption) (Nat.le_of_ble_eq_true rfl)))
  (have kf : PySem.Challenge.rw_nm0006_01.Holds → Mine.hd.heap_39 w.params = Mine.hd.heap_39 w.params := by k_fill; intro; rfl); clear kf
  k_dflt (refine' call_cls ?k1 ?k2 ?k3 ?k4 ?k5 ?k6 ?_; (case k1 => k_asm); (case k2 => k_asm); (case k3 => k_asm); (case k4 => k_is); (case k5 => k_is); (case k6 => k_is); k_whole; intro x' d' h' F' N' l1 l2; (have l1c := allLt_of l1); (have l2c := ltN l2); (try k_sweep); ktr_enter)
  k_steps
  exact hret x' d' _ _ _ _ _ _ _ _ (by assumption) (by assumption) l1 l2
theorem mkBlock {w : World} {dp un : Nat} {gd : Option (List Code)} {cn : Str} {cs : Scope} {a : Addr} {ccd : Value} {cl : List (Str × Addr)} {outer : List Env} {A₀ : Around} {base h₀ : Heap} {L : Addr} {m : Str → Option Value} {mean : ExcName → Option Value} {mg mb : Str → Option Value}
    {news : Led} {s : Shared} {Q E : Value → Shared → Prop} {v1 : Value} (B : Below A₀ base outer h₀) (F : Fr h₀ L s.heap m) (X : (Mine.hd.heap_39 w.params).In h₀) (N : News h₀ L s.heap news) (T : Top Mine.hd.view_39 (looseW Mine.hd.view_39 [Str.ofString "ACCESSES"]) mean mg mb h₀) (hk : cs.kind = .function)
    (hd : dp + 3 < recursionLimit) (_hu : un + 60 < cLine)
    (hret : ∀ x dx sl h1 h2 h3 t1 t2 t3 h' tk', Fr h₀ L h' m → News h₀ L h' ((sl, listOf #[] 0) :: (x, instObj 101 dx) :: (dx, blockDict h1 h2 h3 t1 t2 t3 v1 (.ref sl) .none) :: news) → (∀ p ∈ news, p.1 < dx) → dx < x → (@LT.lt Nat _ x sl) → Q (.ref x) { s with heap := h', toks := tk' }) :
    wpAny (model PySem.Challenge.rw_nm0006_01.row.prog w) (ktrTop dp un gd cn cs L a ccd cl outer) (call (.ref 101) [v1]) Q E s := by
  w_top off
  k_with_none
  k_with "m_rst" => first | (with_reducible apply Rst.nil) | (with_reducible apply Rst.cons; k_extra "m_rst")
  k_with "m_pick" => first | (with_reducible apply Pick.head; k_extra "m_rst") | (with_reducible apply Pick.tail; k_extra "m_pick")
  k_with "m_draw" => (
  (case N => k_asm); (case P => k_extra "m_pick"); (case B => k_asm); (case F => k_asm); (case X => k_asm);
  (case off => ((try simp only [List.nil_append, List.cons_append]); k_all)); (case T => k_asm); (case k => first | exact rfl | assumption); (case W => assumption); (case I => assumption);
  (case b => omega); (case d => ktr_room); (case u => ktr_units))
  k_with "m_al" => first | assumption | exact And.right (by assumption) | exact And.right (And.right (by assumption)) | exact And.right (And.right (And.right (by assumption))) | exact And.right (And.right (And.right (And.right (by assumption)))) | exact And.right (And.right (And.right (And.right (And.right (by assumption))))) | exact And.right (And.right (And.right (And.right (And.right (And.right (by assumption)))))) | exact And.right (And.right (And.right (And.right (And.right (And.right (And.right (by assumption))))))) | exact And.right (And.right (And.right (And.right (And.right (And.right (And.right (And.right (by assumption)))))))) | exact And.right (And.right (And.right (And.right (And.right (And.right (And.right (And.right (And.right (by assumption))))))))) | exact And.right (And.right (And.right (And.right (And.right (And.right (And.right (And.right (And.right (And.right (by assumption)))))))))) | exact And.right (And.right (And.right (And.right (And.right (And.right (And.right (And.right (And.right (And.right (And.right (by assumption))))))))))) | exact And.right (And.right (And.right (And.right (And.right (And.right (And.right (And.right (And.right (And.right (And.right (And.right (by assumption)))))))))))) | exact And.right (And.right (And.right (And.right (And.right (And.right (And.right (And.right (And.right (And.right (And.right (And.right (And.right (by assumption))))))))))))) | exact And.right (And.right (And.right (And.right (And.right (And.right (And.right (And.right (And.right (And.right (And.right (And.right (And.right (And.right (by assumption)))))))))))))) | exact And.right (And.right (And.right (And.right (And.right (And.right (And.right (And.right (And.right (And.right (And.right (And.right (And.right (And.right (And.right (by assumption))))))))))))))) | exact And.right (And.right (And.right (And.right (And.right (And.right (And.right (And.right (And.right (And.right (And.right (And.right (And.right (And.right (And.right (And.right (by assumption)))))))))))))))) | exact And.right (And.right (And.right (And.right (And.right (And.right (And.right (And.right (And.right (And.right (And.right (And.right (And.right (And.right (And.right (And.right (And.right (by assumption))))))))))))))))) | exact And.right (And.right (And.right (And.right (And.right (And.right (And.right (And.right (And.right (And.right (And.right (And.right (And.right (And.right (And.right (And.right (And.right (And.right (by assumption)))))))))))))))))) | exact AllLt.up (by assumption) (by k_extra "m_al")
  k_with "m_cells" => first | k_extra "m_cellsG" | (simp only [List.map_append, List.map_cons, List.cons_append, List.nil_append, List.mem_cons, List.map_nil, List.mem_append]; intro x hx; first | assumption | (rcases hx with hx | hx <;> simp only [hx, true_or, or_true]))
  k_with "m_grow" => first | (with_reducible exact Grow.refl) | (with_reducible refine Grow.add ?_ ?_; k_extra "m_grow"; exact cellsNe (by first | k_extra "m_lt" | omega) (by k_extra "m_al")) | (with_reducible refine Grow.transR (by assumption) ?_ ?_; k_extra "m_cells"; k_extra "m_grow")
  k_with "m_cell1" => (simp only [List.map_append, List.map_cons, List.cons_append, List.nil_append, List.mem_cons, List.map_nil, List.mem_append, true_or, or_true]; done)
  k_with "m_mem" => first | exact List.Mem.head _ | (refine List.Mem.tail _ ?_; k_extra "m_mem")
  k_with "m_sub" => (intro p hp; simp only [List.mem_cons, hp, or_true])
  k_with "m_ctx" => ((case N => k_asm); (case B => k_asm); (case F => k_asm); (case X => k_asm); (case T => k_asm); (case k => first | exact rfl | assumption); (case d => ktr_room); (case u => ktr_units))
  k_with "m_subR" => (intro p hp; simp only [List.mem_cons, List.mem_append, hp, or_true])
  k_with "m_memT" => first | assumption | exact List.Mem.head _ | (refine List.Mem.tail _ ?_; k_extra "m_memT")
  k_with "m_mq" => first | (with_reducible exact List.mem_cons_self) | ((with_reducible refine List.mem_cons_of_mem _ ?_); k_extra "m_mq") | ((with_reducible refine List.mem_append_left _ ?_); k_extra "m_mq") | ((with_reducible refine List.mem_append_right _ ?_); k_extra "m_mq") | (with_reducible assumption)
  k_with "m_sq" => first | (with_reducible exact fa_self) | ((with_reducible refine fa_tail ?_); k_extra "m_sq") | ((with_reducible refine fa_left ?_); k_extra "m_sq") | ((with_reducible refine fa_right ?_); k_extra "m_sq") | (with_reducible assumption)
  k_with "m_perm" => ((repeat' (with_reducible first | refine fa_cons ?_ ?_ | refine fa_app ?_ ?_ | exact fa_nil)); all_goals (first | k_extra "m_mq" | k_extra "m_sq"))
  k_with "m_cellsG" => ((try simp only [List.cons_append, List.nil_append, List.map_cons, List.map_append]); k_extra "m_perm")
  k_with "exec Assign cons ListComp" => walk_at "exec Assign"
  k_with "m_lt" => first | (with_reducible exact Nat.lt_succ_self _) | ((with_reducible refine Nat.lt_succ_of_lt ?_); k_extra "m_lt") | (with_reducible assumption) | (with_reducible exact And.left (by assumption)) | (with_reducible exact And.left (And.right (by assumption))) | (with_reducible exact And.left (And.right (And.right (by assumption)))) | (with_reducible exact And.left (And.right (And.right (And.right (by assumption))))) | (with_reducible exact And.left (And.right (And.right (And.right (And.right (by assumption)))))) | (with_reducible exact And.left (And.right (And.right (And.right (And.right (And.right (by assumption))))))) | (with_reducible exact And.left (And.right (And.right (And.right (And.right (And.right (And.right (by assumption)))))))) | (with_reducible exact And.left (And.right (And.right (And.right (And.right (And.right (And.right (And.right (by assumption))))))))) | (with_reducible exact And.left (And.right (And.right (And.right (And.right (And.right (And.right (And.right (And.right (by assumption)))))))))) | (with_reducible exact And.right (by assumption)) | (with_reducible exact And.right (And.right (by assumption))) | (with_reducible exact And.right (And.right (And.right (by assumption)))) | (with_reducible exact And.right (And.right (And.right (And.right (by assumption))))) | ((with_reducible refine Nat.lt_trans ?_ (by assumption)); k_extra "m_lt")
  k_with "m_ne" => first | (with_reducible assumption) | (with_reducible exact Ne.symm (by assumption)) | (with_reducible exact Ne.symm (And.left (by assumption))) | (with_reducible exact Ne.symm (And.left (And.right (by assumption)))) | (with_reducible exact And.left (by assumption)) | (with_reducible exact And.left (And.right (by assumption))) | exact Nat.ne_of_gt (by k_extra "m_lt") | exact Nat.ne_of_lt (by k_extra "m_lt") | omega
  k_with "m_rm" => first | (with_reducible exact room1 (by assumption) (Nat.le_of_ble_eq_true rfl)) | (with_reducible exact room2 (by assumption) (Nat.le_of_ble_eq_true rfl)) | (with_reducible exact room3 (by assumption) (Nat.le_of_ble_eq_true rfl)) | ((simp only [depth_under_make, depth_under_kw, depth_in1, depth_deeper, depth_caller, units_in1, units_deeper, Around.mark_units, units_caller]); (try dsimp only [ktrTop]); first | (with_reducible exact room1 (by assumption) (Nat.le_of_ble_eq_true rfl)) | (with_reducible exact room2 (by assumption) (Nat.le_of_ble_eq_true rfl)) | (with_reducible exact room3 (by assumption) (Nat.le_of_ble_eq_true rfl)))
  (have kf : PySem.Challenge.rw_nm0006_01.Holds → Mine.hd.heap_39 w.params = Mine.hd.heap_39 w.params := by k_fill; intro; rfl); clear kf
  k_dflt (refine' call_cls ?k1 ?k2 ?k3 ?k4 ?k5 ?k6 ?_; (case k1 => k_asm); (case k2 => k_asm); (case k3 => k_asm); (case k4 => k_is); (case k5 => k_is); (case k6 => k_is); k_whole; intro x' d' h' F' N' l1 l2; (have l1c := allLt_of l1); (have l2c := ltN l2); (try k_sweep); ktr_enter)
  k_steps
  exact hret x' d' _ _ _ _ _ _ _ _ _ (by assumption) (by assumption) l1 l2 (by omega)
theorem mkFunc {w : World} {dp un : Nat} {gd : Option (List Code)} {cn : Str} {cs : Scope} {a : Addr} {ccd : Value} {cl : List (Str × Addr)} {outer : List Env} {A₀ : Around} {base h₀ : Heap} {L : Addr} {m : Str → Option Value} {mean : ExcName → Option Value} {mg mb : Str → Option Value}
    {news : Led} {s : Shared} {Q E : Value → Shared → Prop} {v1 : Value} (B : Below A₀ base outer h₀) (F : Fr h₀ L s.heap m) (X : (Mine.hd.heap_39 w.params).In h₀) (N : News h₀ L s.heap news) (T : Top Mine.hd.view_39 (looseW Mine.hd.view_39 [Str.ofString "ACCESSES"]) mean mg mb h₀) (hk : cs.kind = .function)
    (hd : dp + 3 < recursionLimit) (_hu : un + 60 < cLine)
    (hret : ∀ x dx pl sl bl h1 h2 h3 h4 h5 h6 h7 t1 t2 t3 t4 t5 t6 t7 t8 h' tk', Fr h₀ L h' m → News h₀ L h' ((bl, listOf #[] 0) :: (sl, listOf #[] 0) :: (pl, listOf #[] 0) :: (x, instObj 122 dx) :: (dx, funcDict h1 h2 h3 h4 h5 h6 h7 t1 t2 t3 t4 t5 t6 t7 t8 v1 (.ref pl) (.ref sl) (.ref bl)) :: news) → (∀ p ∈ news, p.1 < dx) → dx < x → (@LT.lt Nat _ x pl) → (@LT.lt Nat _ pl sl) → (@LT.lt Nat _ sl bl) → Q (.ref x) { s with heap := h', toks := tk' }) :
    wpAny (model PySem.Challenge.rw_nm0006_01.row.prog w) (ktrTop dp un gd cn cs L a ccd cl outer) (call (.ref 122) [v1]) Q E s := by
  w_top off
  k_with_none
  k_with "m_rst" => first | (with_reducible apply Rst.nil) | (with_reducible apply Rst.cons; k_extra "m_rst")
  k_with "m_pick" => first | (with_reducible apply Pick.head; k_extra "m_rst") | (with_reducible apply Pick.tail; k_extra "m_pick")
  k_with "m_draw" => (
  (case N => k_asm); (case P => k_extra "m_pick"); (case B => k_asm); (case F => k_asm); (case X => k_asm);
  (case off => ((try simp only [List.nil_append, List.cons_append]); k_all)); (case T => k_asm); (case k => first | exact rfl | assumption); (case W => assumption); (case I => assumption);
  (case b => omega); (case d => ktr_room); (case u => ktr_units))
  k_with "m_al" => first | assumption | exact And.right (by assumption) | exact And.right (And.right (by assumption)) | exact And.right (And.right (And.right (by assumption))) | exact And.right (And.right (And.right (And.right (by assumption)))) | exact And.right (And.right (And.right (And.right (And.right (by assumption))))) | exact And.right (And.right (And.right (And.right (And.right (And.right (by assumption)))))) | exact And.right (And.right (And.right (And.right (And.right (And.right (And.right (by assumption))))))) | exact And.right (And.right (And.right (And.right (And.right (And.right (And.right (And.right (by assumption)))))))) | exact And.right (And.right (And.right (And.right (And.right (And.right (And.right (And.right (And.right (by assumption))))))))) | exact And.right (And.right (And.right (And.right (And.right (And.right (And.right (And.right (And.right (And.right (by assumption)))))))))) | exact And.right (And.right (And.right (And.right (And.right (And.right (And.right (And.right (And.right (And.right (And.right (by assumption))))))))))) | exact And.right (And.right (And.right (And.right (And.right (And.right (And.right (And.right (And.right (And.right (And.right (And.right (by assumption)))))))))))) | exact And.right (And.right (And.right (And.right (And.right (And.right (And.right (And.right (And.right (And.right (And.right (And.right (And.right (by assumption))))))))))))) | exact And.right (And.right (And.right (And.right (And.right (And.right (And.right (And.right (And.right (And.right (And.right (And.right (And.right (And.right (by assumption)))))))))))))) | exact And.right (And.right (And.right (And.right (And.right (And.right (And.right (And.right (And.right (And.right (And.right (And.right (And.right (And.right (And.right (by assumption))))))))))))))) | exact And.right (And.right (And.right (And.right (And.right (And.right (And.right (And.right (And.right (And.right (And.right (And.right (And.right (And.right (And.right (And.right (by assumption)))))))))))))))) | exact And.right (And.right (And.right (And.right (And.right (And.right (And.right (And.right (And.right (And.right (And.right (And.right (And.right (And.right (And.right (And.right (And.right (by assumption))))))))))))))))) | exact And.right (And.right (And.right (And.right (And.right (And.right (And.right (And.right (And.right (And.right (And.right (And.right (And.right (And.right (And.right (And.right (And.right (And.right (by assumption)))))))))))))))))) | exact AllLt.up (by assumption) (by k_extra "m_al")
  k_with "m_cells" => first | k_extra "m_cellsG" | (simp only [List.map_append, List.map_cons, List.cons_append, List.nil_append, List.mem_cons, List.map_nil, List.mem_append]; intro x hx; first | assumption | (rcases hx with hx | hx <;> simp only [hx, true_or, or_true]))
  k_with "m_grow" => first | (with_reducible exact Grow.refl) | (with_reducible refine Grow.add ?_ ?_; k_extra "m_grow"; exact cellsNe (by first | k_extra "m_lt" | omega) (by k_extra "m_al")) | (with_reducible refine Grow.transR (by assumption) ?_ ?_; k_extra "m_cells"; k_extra "m_grow")
  k_with "m_cell1" => (simp only [List.map_append, List.map_cons, List.cons_append, List.nil_append, List.mem_cons, List.map_nil, List.mem_append, true_or, or_true]; done)
  k_with "m_mem" => first | exact List.Mem.head _ | (refine List.Mem.tail _ ?_; k_extra "m_mem")
  k_with "m_sub" => (intro p hp; simp only [List.mem_cons, hp, or_true])
  k_with "m_ctx" => ((case N => k_asm); (case B => k_asm); (case F => k_asm); (case X => k_asm); (case T => k_asm); (case k => first | exact rfl | assumption); (case d => ktr_room); (case u => ktr_units))
  k_with "m_subR" => (intro p hp; simp only [List.mem_cons, List.mem_append, hp, or_true])
  k_with "m_memT" => first | assumption | exact List.Mem.head _ | (refine List.Mem.tail _ ?_; k_extra "m_memT")
  k_with "m_mq" => first | (with_reducible exact List.mem_cons_self) | ((with_reducible refine List.mem_cons_of_mem _ ?_); k_extra "m_mq") | ((with_reducible refine List.mem_append_left _ ?_); k_extra "m_mq") | ((with_reducible refine List.mem_append_right _ ?_); k_extra "m_mq") | (with_reducible assumption)
  k_with "m_sq" => first | (with_reducible exact fa_self) | ((with_reducible refine fa_tail ?_); k_extra "m_sq") | ((with_reducible refine fa_left ?_); k_extra "m_sq") | ((with_reducible refine fa_right ?_); k_extra "m_sq") | (with_reducible assumption)
  k_with "m_perm" => ((repeat' (with_reducible first | refine fa_cons ?_ ?_ | refine fa_app ?_ ?_ | exact fa_nil)); all_goals (first | k_extra "m_mq" | k_extra "m_sq"))
  k_with "m_cellsG" => ((try simp only [List.cons_append, List.nil_append, List.map_cons, List.map_append]); k_extra "m_perm")
  k_with "exec Assign cons ListComp" => walk_at "exec Assign"
  k_with "m_lt" => first | (with_reducible exact Nat.lt_succ_self _) | ((with_reducible refine Nat.lt_succ_of_lt ?_); k_extra "m_lt") | (with_reducible assumption) | (with_reducible exact And.left (by assumption)) | (with_reducible exact And.left (And.right (by assumption))) | (with_reducible exact And.left (And.right (And.right (by assumption)))) | (with_reducible exact And.left (And.right (And.right (And.right (by assumption))))) | (with_reducible exact And.left (And.right (And.right (And.right (And.right (by assumption)))))) | (with_reducible exact And.left (And.right (And.right (And.right (And.right (And.right (by assumption))))))) | (with_reducible exact And.left (And.right (And.right (And.right (And.right (And.right (And.right (by assumption)))))))) | (with_reducible exact And.left (And.right (And.right (And.right (And.right (And.right (And.right (And.right (by assumption))))))))) | (with_reducible exact And.left (And.right (And.right (And.right (And.right (And.right (And.right (And.right (And.right (by assumption)))))))))) | (with_reducible exact And.right (by assumption)) | (with_reducible exact And.right (And.right (by assumption))) | (with_reducible exact And.right (And.right (And.right (by assumption)))) | (with_reducible exact And.right (And.right (And.right (And.right (by assumption))))) | ((with_reducible refine Nat.lt_trans ?_ (by assumption)); k_extra "m_lt")
  k_with "m_ne" => first | (with_reducible assumption) | (with_reducible exact Ne.symm (by assumption)) | (with_reducible exact Ne.symm (And.left (by assumption))) | (with_reducible exact Ne.symm (And.left (And.right (by assumption)))) | (with_reducible exact And.left (by assumption)) | (with_reducible exact And.left (And.right (by assumption))) | exact Nat.ne_of_gt (by k_extra "m_lt") | exact Nat.ne_of_lt (by k_extra "m_lt") | omega
  k_with "m_rm" => first | (with_reducible exact room1 (by assumption) (Nat.le_of_ble_eq_true rfl)) | (with_reducible exact room2 (by assumption) (Nat.le_of_ble_eq_true rfl)) | (with_reducible exact room3 (by assumption) (Nat.le_of_ble_eq_true rfl)) | ((simp only [depth_under_make, depth_under_kw, depth_in1, depth_deeper, depth_caller, units_in1, units_deeper, Around.mark_units, units_caller]); (try dsimp only [ktrTop]); first | (with_reducible exact room1 (by assumption) (Nat.le_of_ble_eq_true rfl)) | (with_reducible exact room2 (by assumption) (Nat.le_of_ble_eq_true rfl)) | (with_reducible exact room3 (by assumption) (Nat.le_of_ble_eq_true rfl)))
  (have kf : PySem.Challenge.rw_nm0006_01.Holds → Mine.hd.heap_39 w.params = Mine.hd.heap_39 w.params := by k_fill; intro; rfl); clear kf
  k_dflt (refine' call_cls ?k1 ?k2 ?k3 ?k4 ?k5 ?k6 ?_; (case k1 => k_asm); (case k2 => k_asm); (case k3 => k_asm); (case k4 => k_is); (case k5 => k_is); (case k6 => k_is); k_whole; intro x' d' h' F' N' l1 l2; (have l1c := allLt_of l1); (have l2c := ltN l2); (try k_sweep); ktr_enter)
  k_steps
  exact hret x' d' _ _ _ _ _ _ _ _ _ _ _ _ _ _ _ _ _ _ _ _ (by assumption) (by assumption) l1 l2 (by omega) (by omega) (by omega)
end
end
local macro_rules | `(tactic| walk_at "call builtin:list.append") => `(tactic| (k_here; (with_reducible show wpAny _ _ (call (Value.builtin _) [Value.ref _, _]) _ _ _); k_dflt (refine' append_K ?k1 ?k2 ?k3 ?_ ?z; (case k1 => k_asm); (case k2 => k_asm); (case k3 => k_upd); (case z => (simp only [List.size_toArray]; rw [sizeLine_eq]; omega)); intro h' F' N'; (try k_sweep); (try simp only [List.push_toArray] at N'))))
section
section
theorem FuncAt.up {rest rest' : Led} {v : Value} {d : FuncD} (h : FuncAt rest v d) (hs : Sub rest rest') : FuncAt rest' v d := h.mono hs
structure FrameD where
  size : Int
  kept : List (Int × Int)
  slots : List Int
inductive FrameAt (rest : Led) : Value → FrameD → Prop
  | mk {x dx : Addr} {h1 h2 h3 : Int} {t1 t2 t3 t4 : Tok} {vk vs : Value} {d : FrameD} (hx : (x, instObj 52 dx) ∈ rest) (hd : (dx, frameDict h1 h2 h3 t1 t2 t3 (.int d.size t4) vk vs) ∈ rest) (hk : SlotsAt rest vk d.kept) (hs : IntsAt rest vs d.slots) : FrameAt rest (.ref x) d
theorem FrameAt.mono {rest rest' : Led} (hs : Sub rest rest') {v : Value} {d : FrameD} (h : FrameAt rest v d) : FrameAt rest' v d := by
  cases h with | mk a b c e => exact .mk (hs _ a) (hs _ b) (c.mono hs) (e.mono hs)
def keepStep (s : Int × List (Int × Int)) (r : Int) : Int × List (Int × Int) := (s.1 + 4, s.2 ++ [(r, s.1)])
def slotStep (s : Int × List Int) (p : Int × Int) : Int × List Int := (roundI s.1 (if p.2 > 1 then p.2 else 1) + p.1, s.2 ++ [roundI s.1 (if p.2 > 1 then p.2 else 1)])
def regsOf (d : FuncD) (saved : List Int) : List Int := saved ++ (if 0 ≤ funcW d then [1] else [])
def at0 (d : FuncD) : Int := 4 * (if 0 > funcW d then 0 else funcW d)
def keptOf (d : FuncD) (saved : List Int) : Int × List (Int × Int) := (regsOf d saved).foldl keepStep (at0 d, [])
def slotsOf (d : FuncD) (saved : List Int) : Int × List Int := d.slots.foldl slotStep ((keptOf d saved).1, [])
def frameOf (d : FuncD) (saved : List Int) : FrameD := ⟨roundI (slotsOf d saved).1 16, (keptOf d saved).2, (slotsOf d saved).2⟩
local macro_rules | `(tactic| walk_at "call ref cons nil") => `(tactic| (k_here; (with_reducible show wpAny _ _ (call (Value.ref 28) [Value.ref _]) _ _ _); k_dflt (refine' ReadSpec.use (outgoing _ _ _) ?B ?F ?X ?N ?T ?k ?pre ?d ?u ?_; k_extra "m_ctx"; (case pre => exact ⟨FuncAt.up (by assumption) (by k_extra "m_subR"), by assumption⟩); intro r9 h9 tk9 F9 N9 ho9; (try k_sweep); (obtain ⟨t9, e9⟩ := ho9; subst e9))))
local macro_rules | `(tactic| walk_at "call ref cons nil") => `(tactic| (k_here; (with_reducible show wpAny _ _ (call (Value.ref 21) [Value.int _ _, Value.int _ _]) _ _ _); k_dflt (refine' ReadSpec.use (rounded _ _ _ _ _) ?B ?F ?X ?N ?T ?k ?pre ?d ?u ?_; k_extra "m_ctx"; (case pre => exact ⟨by omega, by omega, by omega, by omega⟩); intro r9 h9 tk9 F9 N9 ho9; (try k_sweep); (obtain ⟨t9, e9⟩ := ho9; subst e9))))
local macro_rules | `(tactic| walk_at "call ref cons nil") => `(tactic| (k_here; (with_reducible show wpAny _ _ (call (Value.ref 52) [_, _, _]) _ _ _); k_dflt (refine' mkFrame ?B ?F ?X ?N ?T ?k ?d ?u ?_; k_extra "m_ctx"; intro x9 dx9 h1 h2 h3 t1 t2 t3 h9 tk9 F9 N9 l9 l8; (k_lt l9); (k_lt2 l8); (try k_sweep))))
local macro_rules | `(tactic| walk_at "call type:list") => `(tactic| (k_here; (with_reducible show wpAny _ _ (call (Value.type _) [Value.ref _]) _ _ _); k_dflt (refine' list_copyK ?k1 ?k2 ?k3 ?_ ?z; (case k1 => k_asm); (case k2 => k_asm); (case k3 => exact isList_led (by k_asm) (by k_mem)); (case z => (simp only [List.size_toArray]; rw [sizeLine_eq]; omega)); intro D' c' h' F' N' l1; (try k_lt l1); (try k_sweep))))
theorem cells_cons {x y : Addr} {l : List Addr} (h : @LT.lt Nat _ y x) (h2 : ∀ z ∈ l, x ≠ z) : ∀ z ∈ y :: l, x ≠ z := fun z hz => by
  rcases List.mem_cons.mp hz with rfl | hz
  · exact Nat.ne_of_gt h
  · exact h2 z hz

theorem frame_of (w : World) (v v2 : Value) (d : FuncD) (saved : List Int) : MakeSpec w 63 6 (fun rest => FuncAt rest v d ∧ FuncOk d ∧ IntsAt rest v2 saved ∧ saved.length ≤ 5) [v, v2] (fun rest r => FrameAt rest r (frameOf d saved)) := by
  w_top off
  k_with_none
  k_with "m_rst" => first | (with_reducible apply Rst.nil) | (with_reducible apply Rst.cons; k_extra "m_rst")
  k_with "m_pick" => first | (with_reducible apply Pick.head; k_extra "m_rst") | (with_reducible apply Pick.tail; k_extra "m_pick")
  k_with "m_draw" => (
  (case N => k_asm); (case P => k_extra "m_pick"); (case B => k_asm); (case F => k_asm); (case X => k_asm);
  (case off => ((try simp only [List.nil_append, List.cons_append]); k_all)); (case T => k_asm); (case k => first | exact rfl | assumption); (case W => assumption); (case I => assumption);
  (case b => omega); (case d => ktr_room); (case u => ktr_units))
  k_with "m_al" => first | assumption | exact And.right (by assumption) | exact And.right (And.right (by assumption)) | exact And.right (And.right (And.right (by assumption))) | exact And.right (And.right (And.right (And.right (by assumption)))) | exact And.right (And.right (And.right (And.right (And.right (by assumption))))) | exact And.right (And.right (And.right (And.right (And.right (And.right (by assumption)))))) | exact And.right (And.right (And.right (And.right (And.right (And.right (And.right (by assumption))))))) | exact And.right (And.right (And.right (And.right (And.right (And.right (And.right (And.right (by assumption)))))))) | exact And.right (And.right (And.right (And.right (And.right (And.right (And.right (And.right (And.right (by assumption))))))))) | exact And.right (And.right (And.right (And.right (And.right (And.right (And.right (And.right (And.right (And.right (by assumption)))))))))) | exact And.right (And.right (And.right (And.right (And.right (And.right (And.right (And.right (And.right (And.right (And.right (by assumption))))))))))) | exact And.right (And.right (And.right (And.right (And.right (And.right (And.right (And.right (And.right (And.right (And.right (And.right (by assumption)))))))))))) | exact And.right (And.right (And.right (And.right (And.right (And.right (And.right (And.right (And.right (And.right (And.right (And.right (And.right (by assumption))))))))))))) | exact And.right (And.right (And.right (And.right (And.right (And.right (And.right (And.right (And.right (And.right (And.right (And.right (And.right (And.right (by assumption)))))))))))))) | exact And.right (And.right (And.right (And.right (And.right (And.right (And.right (And.right (And.right (And.right (And.right (And.right (And.right (And.right (And.right (by assumption))))))))))))))) | exact And.right (And.right (And.right (And.right (And.right (And.right (And.right (And.right (And.right (And.right (And.right (And.right (And.right (And.right (And.right (And.right (by assumption)))))))))))))))) | exact And.right (And.right (And.right (And.right (And.right (And.right (And.right (And.right (And.right (And.right (And.right (And.right (And.right (And.right (And.right (And.right (And.right (by assumption))))))))))))))))) | exact And.right (And.right (And.right (And.right (And.right (And.right (And.right (And.right (And.right (And.right (And.right (And.right (And.right (And.right (And.right (And.right (And.right (And.right (by assumption)))))))))))))))))) | exact AllLt.up (by assumption) (by k_extra "m_al")
  k_with "m_cells" => first | k_extra "m_cellsG" | (simp only [List.map_append, List.map_cons, List.cons_append, List.nil_append, List.mem_cons, List.map_nil, List.mem_append]; intro x hx; first | assumption | (rcases hx with hx | hx <;> simp only [hx, true_or, or_true]))
  k_with "m_grow" => first | (with_reducible exact Grow.refl) | (with_reducible refine Grow.add ?_ ?_; k_extra "m_grow"; exact cellsNe (by first | k_extra "m_lt" | omega) (by k_extra "m_al")) | (with_reducible refine Grow.transR (by assumption) ?_ ?_; k_extra "m_cells"; k_extra "m_grow")
  k_with "m_cell1" => (simp only [List.map_append, List.map_cons, List.cons_append, List.nil_append, List.mem_cons, List.map_nil, List.mem_append, true_or, or_true]; done)
  k_with "m_mem" => first | exact List.Mem.head _ | (refine List.Mem.tail _ ?_; k_extra "m_mem")
  k_with "m_sub" => (intro p hp; simp only [List.mem_cons, hp, or_true])
  k_with "m_ctx" => ((case N => k_asm); (case B => k_asm); (case F => k_asm); (case X => k_asm); (case T => k_asm); (case k => first | exact rfl | assumption); (case d => ktr_room); (case u => ktr_units))
  k_with "m_subR" => (intro p hp; simp only [List.mem_cons, List.mem_append, hp, or_true])
  k_with "m_memT" => first | assumption | exact List.Mem.head _ | (refine List.Mem.tail _ ?_; k_extra "m_memT")
  k_with "m_mq" => first | (with_reducible exact List.mem_cons_self) | ((with_reducible refine List.mem_cons_of_mem _ ?_); k_extra "m_mq") | ((with_reducible refine List.mem_append_left _ ?_); k_extra "m_mq") | ((with_reducible refine List.mem_append_right _ ?_); k_extra "m_mq") | (with_reducible assumption)
  k_with "m_sq" => first | (with_reducible exact fa_self) | ((with_reducible refine fa_tail ?_); k_extra "m_sq") | ((with_reducible refine fa_left ?_); k_extra "m_sq") | ((with_reducible refine fa_right ?_); k_extra "m_sq") | (with_reducible assumption)
  k_with "m_perm" => ((repeat' (with_reducible first | refine fa_cons ?_ ?_ | refine fa_app ?_ ?_ | exact fa_nil)); all_goals (first | k_extra "m_mq" | k_extra "m_sq"))
  k_with "m_cellsG" => ((try simp only [List.cons_append, List.nil_append, List.map_cons, List.map_append]); k_extra "m_perm")
  k_with "exec Assign cons ListComp" => walk_at "exec Assign"
  k_with "m_lt" => first | (with_reducible exact Nat.lt_succ_self _) | ((with_reducible refine Nat.lt_succ_of_lt ?_); k_extra "m_lt") | (with_reducible assumption) | (with_reducible exact And.left (by assumption)) | (with_reducible exact And.left (And.right (by assumption))) | (with_reducible exact And.left (And.right (And.right (by assumption)))) | (with_reducible exact And.left (And.right (And.right (And.right (by assumption))))) | (with_reducible exact And.left (And.right (And.right (And.right (And.right (by assumption)))))) | (with_reducible exact And.left (And.right (And.right (And.right (And.right (And.right (by assumption))))))) | (with_reducible exact And.left (And.right (And.right (And.right (And.right (And.right (And.right (by assumption)))))))) | (with_reducible exact And.left (And.right (And.right (And.right (And.right (And.right (And.right (And.right (by assumption))))))))) | (with_reducible exact And.left (And.right (And.right (And.right (And.right (And.right (And.right (And.right (And.right (by assumption)))))))))) | (with_reducible exact And.right (by assumption)) | (with_reducible exact And.right (And.right (by assumption))) | (with_reducible exact And.right (And.right (And.right (by assumption)))) | (with_reducible exact And.right (And.right (And.right (And.right (by assumption))))) | ((with_reducible refine Nat.lt_trans ?_ (by assumption)); k_extra "m_lt")
  k_with "m_ne" => first | (with_reducible assumption) | (with_reducible exact Ne.symm (by assumption)) | (with_reducible exact Ne.symm (And.left (by assumption))) | (with_reducible exact Ne.symm (And.left (And.right (by assumption)))) | (with_reducible exact And.left (by assumption)) | (with_reducible exact And.left (And.right (by assumption))) | exact Nat.ne_of_gt (by k_extra "m_lt") | exact Nat.ne_of_lt (by k_extra "m_lt") | omega
  k_with "m_rm" => first | (with_reducible exact room1 (by assumption) (Nat.le_of_ble_eq_true rfl)) | (with_reducible exact room2 (by assumption) (Nat.le_of_ble_eq_true rfl)) | (with_reducible exact room3 (by assumption) (Nat.le_of_ble_eq_true rfl)) | ((simp only [depth_under_make, depth_under_kw, depth_in1, depth_deeper, depth_caller, units_in1, units_deeper, Around.mark_units, units_caller]); (try dsimp only [ktrTop]); first | (with_reducible exact room1 (by assumption) (Nat.le_of_ble_eq_true rfl)) | (with_reducible exact room2 (by assumption) (Nat.le_of_ble_eq_true rfl)) | (with_reducible exact room3 (by assumption) (Nat.le_of_ble_eq_true rfl)))
  k_with "eval Name" => (k_here; k_dflt (refine' ld (by k_asm) (by assumption) ?_; k_whole))
  k_with "exec For Name Name cons nil" => (k_here; with_unfolding_all refine For_invTF (by assumption) ?_ (by intro _; rfl))
  k_with "exec For Tuple Attribute cons nil" => (k_here; with_unfolding_all refine For_invTF (by assumption) ?_ (by intro _; rfl))
  k_with "pyIter ref" => ((with_reducible show wpAny _ _ (pyIter (Value.ref _)) (fun it s₂ => LoopAtT _ _ _ _ _ _ _ _ _ it s₂) _ _); refine hold ?_)
  k_with "m_cellsX" => first | (refine cells_cons (by first | k_extra "m_lt" | omega) ?_; k_extra "m_cellsX") | exact allLt_cells (by k_extra "m_al")
  k_with "exec If" => ((fail_if_success (rename Mark => mk9)); refine hold ?_)
  (have kf : PySem.Challenge.rw_nm0006_01.Holds → Mine.hd.heap_39 w.params = Mine.hd.heap_39 w.params := by k_fill; intro; rfl); clear kf
  intro dp un gd cn cs a ccd cl outer A₀ base h₀ L m mean mg mb ex rest s Q E B F X N T hk hpre hd hu hret
  obtain ⟨hf, hok, hsv, hs5⟩ := hpre
  have hf' := hf
  obtain @⟨x, dx, bl, _, _, _, _, _, _, _, _, _, _, _, _, _, _, _, vn, vp, vs, _, bvs, bn, hx, hdx, hp, hs, hbl, hb2⟩ := hf'
  obtain ⟨al, avs, an, rfl, hal, ha2⟩ := hsv
  have hal2 := ha2.length
  obtain ⟨sal, svs, sn, rfl, hsal, hsv2⟩ := hs
  refine wpAny_call ?_
  k_dflt ktr_enter
  k_steps
  rename_i l1a _ _ _ kl hB l1k sl hC l1s rl c1 hD l1r T1 hE l1T _ _ _ _ h5 F1 N1
  unfold Hold
  have hw := funcW_le hok
  refine join_led F1 N1 (fun nw => ∃ rvs e, nw = (kl, listOf #[] 0) :: (rl, listOf (List.toArray rvs) e) :: (sl, listOf #[] 0) :: (ex ++ rest) ∧ All2 IntAt rvs (regsOf d saved)) ?j1 ?j2
  case j1 =>
    have hmk : Mark := ⟨⟩
    k_steps
    · have hr : regsOf d saved = saved ++ [1] := by unfold regsOf; rw [if_pos (by omega)]
      rw [hr]
      exact Meet.intro (nw := (kl, listOf #[] 0) :: (rl, listOf (List.toArray (avs ++ [.int 1 189])) (c1 + 1)) :: (sl, listOf #[] 0) :: (ex ++ rest)) (by assumption) (by assumption) (by k_extra "m_perm") ⟨_, _, rfl, ha2.snoc .mk⟩
    · have hr : regsOf d saved = saved := by unfold regsOf; rw [if_neg (by omega), List.append_nil]
      rw [hr]
      exact Meet.intro (nw := (kl, listOf #[] 0) :: (rl, listOf (List.toArray avs) c1) :: (sl, listOf #[] 0) :: (ex ++ rest)) (by assumption) (by assumption) (by k_extra "m_perm") ⟨_, _, rfl, ha2⟩
  case j2 =>
    rintro h' tk nw F2 N2 ⟨rvs, e, rfl, hrv⟩
    clear F1 N1
    k_steps
    unfold Hold
    have offk : Off kl (ex ++ rest) := fun p hp => Nat.ne_of_lt (l1k p hp)
    have offs : Off sl (ex ++ rest) := allLt_off l1s.2
    have offr : Off rl (ex ++ rest) := allLt_off l1r.2.2
    have hkl1 := l1s.1
    have hkl2 := l1r.1
    have hkl3 := l1r.2.1
    have hlr : rvs.length ≤ 6 := by
      rw [hrv.length]; unfold regsOf; rw [List.length_append]; split <;> simp <;> omega
    refine iter_list (l := rl) (vs := rvs) (n₀ := e) (fun i m₁ nw => ∃ kvs e2 rest', nw = (kl, listOf (List.toArray kvs) e2) :: (rl, listOf (List.toArray rvs) e) :: (sl, listOf #[] 0) :: (ex ++ rest') ∧ Grow (kl :: sl :: ex.map (·.1)) rest rest' ∧ Off kl (ex ++ rest') ∧ Off sl (ex ++ rest') ∧
      All2 (SlotAt rest') kvs (((regsOf d saved).take i).foldl keepStep (at0 d, [])).2 ∧ m₁ (Str.ofString "func") = some (.ref x) ∧ m₁ (Str.ofString "kept") = some (.ref kl) ∧ m₁ (Str.ofString "slots") = some (.ref sl) ∧
      (∃ t, m₁ (Str.ofString "at") = some (.int (((regsOf d saved).take i).foldl keepStep (at0 d, [])).1 t)) ∧ (((regsOf d saved).take i).foldl keepStep (at0 d, [])).1 = at0 d + 4 * i ∧ kvs.length = i) (by rfl) F2 N2 ?hm1 ?hj1 ?turn1 ?done1
    case hm1 => rintro i m₁ nw ⟨kvs, e2, rest', rfl, _⟩; exact .tail _ (.head _)
    case hj1 => exact ⟨[], 0, rest, rfl, Grow.refl, offk, offs, .nil, rfl, rfl, rfl, ⟨_, rfl⟩, by show at0 d = at0 d + 4 * ((0 : Nat) : Int); omega, rfl⟩
    case turn1 =>
      rintro i v m₁ nw s₁ I oI hv ⟨kvs, e2, rest', rfl, G, ok, os, hA, hfn, hkp, hsl, ⟨ta, hat⟩, hval, hkvl⟩ off F3 N3
      clear F2 N2
      obtain ⟨r, hr, hR⟩ := hrv.get hv
      rw [foldl_take _ _ hr]
      obtain ⟨tr⟩ := hR
      have hi : i < rvs.length := (List.getElem?_eq_some_iff.mp hv).1
      rw [off_cons, off_cons, off_cons] at off
      obtain ⟨offa, offb, offc, offd⟩ := off
      generalize ((regsOf d saved).take i).foldl keepStep (at0 d, []) = acc at hA hat hval ⊢
      k_steps
      rename_i tr h0x h1x D1 h2x l1 h3x h4x F4 N4
      have hD1 : @LT.lt Nat _ I D1 ∧ @LT.lt Nat _ kl D1 ∧ @LT.lt Nat _ sl D1 := ⟨by omega, by omega, by omega⟩
      refine TurnEnd.intro (nw := (kl, listOf (List.toArray (kvs ++ [.ref D1])) (e2 + 1)) :: (rl, listOf (List.toArray rvs) e) :: (sl, listOf #[] 0) :: (ex ++ ((D1, { cls := .type "tuple", data := .seq #[.int r tr, .int acc.1 ta] }) :: rest'))) F4 N4 (by k_extra "m_perm") ?_ ⟨_, _, _, rfl, ?_, ?_, ?_, (hA.imp fun _ _ => SlotAt.mono fun p hp => .tail _ hp).snoc (.mk (.head _)), hfn, hkp, hsl, ⟨_, rfl⟩, by show acc.1 + 4 = _; omega, by rw [List.length_append, hkvl]; rfl⟩
      · rw [off_cons, off_cons, off_cons, off_mid]; exact ⟨offa, offb, offc, Nat.ne_of_gt hD1.1, offd⟩
      · refine Grow.add G ?_
        k_extra "m_cellsX"
      · rw [off_mid]; exact ⟨Nat.ne_of_gt hD1.2.1, ok⟩
      · rw [off_mid]; exact ⟨Nat.ne_of_gt hD1.2.2, os⟩
    case done1 =>
      rintro m₁ nw h tk ⟨kvs, e2, rest', rfl, G, ok, os, hA, hfn, hkp, hsl, ⟨ta, hat⟩, hval, hkvl⟩ F3 N3
      rw [take_all2 hrv] at hA hat hval
      have hat1 : 0 ≤ (keptOf d saved).1 ∧ (keptOf d saved).1 ≤ 100 := by
        unfold keptOf; rw [hval]; unfold at0; split <;> omega
      have e1 : (regsOf d saved).foldl keepStep (at0 d, []) = keptOf d saved := rfl
      rw [e1] at hA hat
      clear F2 N2 hval
      have N5 := News.sub' (a := (sl, listOf #[] 0) :: (kl, listOf (List.toArray kvs) e2) :: (ex ++ rest')) N3 (by k_extra "m_perm")
      k_steps
      unfold Hold
      refine iter_list (l := sal) (vs := svs) (n₀ := sn) (fun i m₁ nw => ∃ qvs e3, nw = (sl, listOf (List.toArray qvs) e3) :: (kl, listOf (List.toArray kvs) e2) :: (ex ++ rest') ∧
        All2 IntAt qvs ((d.slots.take i).foldl slotStep ((keptOf d saved).1, [])).2 ∧ m₁ (Str.ofString "kept") = some (.ref kl) ∧ m₁ (Str.ofString "slots") = some (.ref sl) ∧
        (∃ t, m₁ (Str.ofString "at") = some (.int ((d.slots.take i).foldl slotStep ((keptOf d saved).1, [])).1 t)) ∧ 0 ≤ ((d.slots.take i).foldl slotStep ((keptOf d saved).1, [])).1 ∧ ((d.slots.take i).foldl slotStep ((keptOf d saved).1, [])).1 ≤ 100 + 40 * i ∧ qvs.length = i) (by rfl) F3 N5 ?hm2 ?hj2 ?turn2 ?done2
      case hm2 => rintro i m₁ nw ⟨qvs, e3, rfl, _⟩; exact .tail _ (.tail _ (List.mem_append_right _ (G.mem hsal)))
      case hj2 => exact ⟨[], 0, rfl, .nil, hkp, hsl, ⟨_, hat⟩, hat1.1, by show (keptOf d saved).1 ≤ 100 + 40 * ((0 : Nat) : Int); omega, rfl⟩
      case turn2 =>
        rintro i v m₁ nw s₁ I oI hv ⟨qvs, e3, rfl, hQ, hkp, hsl, ⟨ta, hat⟩, hlo, hhi, hql⟩ off F4 N4
        clear F3 N3 N5
        obtain ⟨p, hp9, hP⟩ := hsv2.get hv
        rw [foldl_take _ _ hp9]
        obtain @⟨pa, sx, sy, tx, ty, hpm⟩ := hP
        have hi : i < svs.length := (List.getElem?_eq_some_iff.mp hv).1
        have hso := hok.2.1 (sx, sy) (List.mem_of_getElem? hp9)
        have hs4 := hok.1
        have hsvl := hsv2.length
        dsimp only at hso
        have hmx : 1 ≤ (if sy > 1 then sy else 1) ∧ (if sy > 1 then sy else 1) ≤ 8 := by split <;> omega
        rw [off_cons, off_cons] at off
        obtain ⟨offa, offb, offc⟩ := off
        generalize (d.slots.take i).foldl slotStep ((keptOf d saved).1, []) = acc at hQ hat hlo hhi ⊢
        k_steps
        rename_i F5 N6
        have hR := roundI_spec (n := acc.1) (a := if sy > 1 then sy else 1) (by omega)
        refine TurnEnd.intro F5 N6 (fun p hp => hp) (by rw [off_cons, off_cons]; exact ⟨offa, offb, offc⟩) ⟨_, _, rfl, hQ.snoc .mk, hkp, hsl, ⟨_, rfl⟩, ?_, ?_, by rw [List.length_append, hql]; rfl⟩
        · show 0 ≤ roundI acc.1 (if sy > 1 then sy else 1) + sx
          omega
        · show roundI acc.1 (if sy > 1 then sy else 1) + sx ≤ _
          omega
      case done2 =>
        rintro m₁ nw h tk ⟨qvs, e3, rfl, hQ, hkp, hsl, ⟨ta, hat⟩, hlo, hhi, hql⟩ F4 N4
        rw [take_all2 hsv2] at hQ hat hlo hhi
        have e2 : d.slots.foldl slotStep ((keptOf d saved).1, []) = slotsOf d saved := rfl
        rw [e2] at hQ hat hlo hhi
        have hs4 := hok.1
        have hsvl := hsv2.length
        clear F3 N3 N5
        k_steps
        have NF := News.finishR (h₀ := h₀) (L := L) (ex := ex) (r := rest') (by assumption) (by k_extra "m_rst")
        simp only [List.cons_append, List.nil_append] at NF
        refine hret _ _ _ _ (by assumption) NF ?_ (.mk (.head _) (.tail _ (.head _)) ⟨_, _, _, rfl, .tail _ (.tail _ (.tail _ (.head _))), hA.imp fun _ _ => SlotAt.mono fun p hp => .tail _ (.tail _ (.tail _ (.tail _ hp)))⟩ ⟨_, _, _, rfl, .tail _ (.tail _ (.head _)), hQ⟩)
        rename_i l9 l8 kF kN Tc kX
        exact Grow.add (Grow.add (Grow.add (Grow.add (G.less fun z hz => .tail _ (.tail _ hz)) (off_cells offk)) (off_cells offs)) (allLt_cells l9.2.2)) (allLt_cells (AllLt.up l8 l9.2.2))
end
end
section
theorem map1 {m : Str → Option Value} {x : Str} {a : Value} (h : m x = some a) : ∃ m₀ : Str → Option Value, m = fun u => if u = x then some a else m₀ u :=
  ⟨m, funext fun u => by by_cases e : u = x <;> simp only [e, if_true, if_false, h]⟩
theorem map2 {m : Str → Option Value} {x y : Str} {a b : Value} (h : m x = some a) (h2 : m y = some b) : ∃ m₀ : Str → Option Value, m = fun u => if u = x then some a else if u = y then some b else m₀ u :=
  ⟨m, funext fun u => by by_cases e : u = x <;> by_cases e2 : u = y <;> simp_all⟩
theorem map3 {m : Str → Option Value} {x y z : Str} {a b c : Value} (h : m x = some a) (h2 : m y = some b) (h3 : m z = some c) : ∃ m₀ : Str → Option Value, m = fun u => if u = x then some a else if u = y then some b else if u = z then some c else m₀ u :=
  ⟨m, funext fun u => by by_cases e : u = x <;> by_cases e2 : u = y <;> by_cases e3 : u = z <;> simp_all⟩
theorem map4 {m : Str → Option Value} {x y z k : Str} {a b c d : Value} (h : m x = some a) (h2 : m y = some b) (h3 : m z = some c) (h4 : m k = some d) : ∃ m₀ : Str → Option Value, m = fun u => if u = x then some a else if u = y then some b else if u = z then some c else if u = k then some d else m₀ u :=
  ⟨m, funext fun u => by by_cases e : u = x <;> by_cases e2 : u = y <;> by_cases e3 : u = z <;> by_cases e4 : u = k <;> simp_all⟩
theorem map5 {m : Str → Option Value} {x y z k l : Str} {a b c d e : Value} (h : m x = some a) (h2 : m y = some b) (h3 : m z = some c) (h4 : m k = some d) (h5 : m l = some e) : ∃ m₀ : Str → Option Value, m = fun u => if u = x then some a else if u = y then some b else if u = z then some c else if u = k then some d else if u = l then some e else m₀ u :=
  ⟨m, funext fun u => by by_cases e : u = x <;> by_cases e2 : u = y <;> by_cases e3 : u = z <;> by_cases e4 : u = k <;> by_cases e5 : u = l <;> simp_all⟩
theorem Grow.addA {c : List Addr} {a b L : Led} {x : Addr} {o : Obj} (h : Grow c a b) (ho : Off x L) (hc : ∀ y ∈ c, y ∈ L.map (·.1)) : Grow c a ((x, o) :: b) := h.add fun y hy => by
  obtain ⟨q, hq, rfl⟩ := List.mem_map.mp (hc y hy)
  exact Ne.symm (ho q hq)
theorem Grow.addL {c : List Addr} {a b l r : Led} {x : Addr} {o : Obj} (h : Grow c a b) (hl : AllLt x (l ++ r)) (hc : ∀ y ∈ c, y ∈ l.map (·.1)) : Grow c a ((x, o) :: b) := h.add fun y hy => allLt_cells hl y (hc y hy)

section
variable {prog : Program} {w : World} {A : Around} {s : Shared} {h₀ : Heap} {L : Addr} {m : Str → Option Value} {env : Env}
/-- a turn's end of a comprehension that draws: the frozen cells ex2 stand, the rest grows -/
inductive DEnd (h₀ : Heap) (L : Addr) (m : Str → Option Value) (s₁ : Shared) (I : Addr) (oI : Obj) (C : Addr) (oC : Obj) (D : Addr) (oD : Obj) (wa nm : Addr) (ex2 rest : Led) (b' : Int) (PJ : Value → Led → Prop) : Value → Shared → Prop
  | mk {y : Value} {h' : Heap} {tk : Nat} {o' : Obj} {rest' all : Led} (F : Fr h₀ L h' m) (N : News h₀ L h' all) (sub : ∀ p ∈ (I, oI) :: (C, oC) :: (D, oD) :: (wa, o') :: (ex2 ++ rest'), p ∈ all)
      (G : Grow (I :: C :: D :: wa :: ex2.map (·.1)) rest rest') (W : WellObj nm b' o') (J : PJ y rest') : DEnd h₀ L m s₁ I oI C oC D oD wa nm ex2 rest b' PJ y { s₁ with heap := h', toks := tk }
theorem comp_draw {elt : Expr} {x : Str} {scope : Scope} {cl : List (Str × Addr)} {P : Nat → Value → Prop} {Fin : List Value → Led → Prop} {n : Nat} {wa nm : Addr} {ex2 rest₀ : Led} {o₀ : Obj} {b k : Int} (PJ : Nat → List Value → Led → Prop) (hk : 0 ≤ k)
    (off₀ : Off wa (ex2 ++ rest₀)) (W₀ : WellObj nm b o₀) (I₀ : NumsAt nm rest₀) (J₀ : PJ 0 [] rest₀)
    (turn : ∀ i v ys I oI C oC D m₂ h tk (E' : Value → Shared → Prop) o rest, i < n → P i v → Sub rest₀ rest → Off wa (ex2 ++ rest) → WellObj nm (b + k * i) o → NumsAt nm rest → PJ i ys rest → LCg.NsObj oC m₂ → m₂ x = some v → Fr h₀ L h m →
      News h₀ L h ((I, oI) :: (C, oC) :: (D, LCg.lst ys) :: (wa, o) :: (ex2 ++ rest)) → (@Ne Nat I wa) → (@Ne Nat C wa) → (@Ne Nat D wa) →
      wpAny (model prog w) A (eval elt (compEnvC scope cl C env)) (DEnd h₀ L m { s with heap := h, toks := tk } I oI C oC D (LCg.lst ys) wa nm ex2 rest (b + k * (i + 1 : Nat)) (fun y r => PJ (i + 1) (ys ++ [y]) r)) E' { s with heap := h, toks := tk })
    (fin : ∀ ys o rest, Grow (wa :: ex2.map (·.1)) rest₀ rest → Off wa (ex2 ++ rest) → WellObj nm (b + k * n) o → NumsAt nm rest → PJ n ys rest → Fin ys ((wa, o) :: (ex2 ++ rest))) :
    LCg.CompRest prog w A h₀ L m env elt x scope cl s (fun _ => True) P Fin n 0 [] ((wa, o₀) :: (ex2 ++ rest₀)) := by
  refine comp_inv (n := n) (fun i ys news => ∃ o rest, news = (wa, o) :: (ex2 ++ rest) ∧ Grow (wa :: ex2.map (·.1)) rest₀ rest ∧ Off wa (ex2 ++ rest) ∧ WellObj nm (b + k * i) o ∧ NumsAt nm rest ∧ PJ i ys rest) ?_ ?_ n 0 [] _ (Nat.zero_add _) ⟨o₀, rest₀, rfl, Grow.refl, off₀, ?_, I₀, J₀⟩
  · rintro i v ys news I oI C oC D m₂ h tk E' hi hP ⟨o, rest, rfl, G, off, W, I', J⟩ hC hx F N off3 ne
    rw [off3_iff] at off3
    obtain ⟨oI3, oC3, oD3⟩ := off3
    refine wpAny_mono (turn i v ys I oI C oC D m₂ h tk E' o rest hi hP G.1 off W I' J hC hx F N (Ne.symm (oI3 _ (.head _))) (Ne.symm (oC3 _ (.head _))) (Ne.symm (oD3 _ (.head _)))) (fun y s₂ h₂ => ?_) fun _ _ e => e
    cases h₂ with
    | mk F' N' sub G' W' J' =>
      have key : ∀ z, z ∈ I :: C :: D :: wa :: ex2.map (·.1) → Off z (ex2 ++ rest) → Off z (ex2 ++ _) := fun z hz ho => G'.off hz ho
      exact LCg.CompEnd.intro F' N' _ sub (off3_iff.mpr
        ⟨off_cons.mpr ⟨(off_cons.mp oI3).1, key I (.head _) (off_cons.mp oI3).2⟩, off_cons.mpr ⟨(off_cons.mp oC3).1, key C (.tail _ (.head _)) (off_cons.mp oC3).2⟩, off_cons.mpr ⟨(off_cons.mp oD3).1, key D (.tail _ (.tail _ (.head _))) (off_cons.mp oD3).2⟩⟩) trivial
        ⟨_, _, rfl, Grow.trans G (G'.less fun x hx => .tail _ (.tail _ (.tail _ hx))) (fun _ h => h), key wa (.tail _ (.tail _ (.tail _ (.head _)))) off, W', I'.mono G'.1, J'⟩
  · rintro ys news ⟨o, rest, rfl, G, off, W, I', J⟩
    exact fin ys o rest G off W I' J
  · simpa using W₀
/-- a turn's end of a comprehension that only reads or makes -/
inductive REnd (h₀ : Heap) (L : Addr) (m : Str → Option Value) (s₁ : Shared) (I : Addr) (oI : Obj) (C : Addr) (oC : Obj) (D : Addr) (oD : Obj) (J : Value → Led → Prop) : Value → Shared → Prop
  | mk {y : Value} {h' : Heap} {tk : Nat} {nw all : Led} (F : Fr h₀ L h' m) (N : News h₀ L h' all) (sub : ∀ p ∈ (I, oI) :: (C, oC) :: (D, oD) :: nw, p ∈ all) (off : LCg.Off3 I C D nw) (hJ : J y nw) : REnd h₀ L m s₁ I oI C oC D oD J y { s₁ with heap := h', toks := tk }
theorem comp_list {elt : Expr} {x : Str} {scope : Scope} {cl : List (Str × Addr)} {Fin : Shared → List Value → Led → Prop} {ax : Addr} {vs : List Value} {k : Nat} {news : Led} {s₁ : Shared} (J : Nat → List Value → Led → Prop)
    (hh : A.handled = none) (F : Fr h₀ L s₁.heap m) (N : News h₀ L s₁.heap news) (hm : (ax, listOf (List.toArray vs) k) ∈ news) (hsz : vs.length ≤ 10000) (hJm : ∀ i ys nw, J i ys nw → (ax, listOf (List.toArray vs) k) ∈ nw) (hj : J 0 [] news)
    (turn : ∀ i v ys nw I oI C oC D m₂ h tk (E' : Value → Shared → Prop), vs[i]? = some v → J i ys nw → LCg.NsObj oC m₂ → m₂ x = some v → Fr h₀ L h m → News h₀ L h ((I, oI) :: (C, oC) :: (D, LCg.lst ys) :: nw) → LCg.Off3 I C D nw →
      wpAny (model prog w) A (eval elt (compEnvC scope cl C env)) (REnd h₀ L m { s₁ with heap := h, toks := tk } I oI C oC D (LCg.lst ys) (fun y nw' => J (i + 1) (ys ++ [y]) nw')) E' { s₁ with heap := h, toks := tk })
    (fin : ∀ g ys nw, J vs.length ys nw → Fin { s₁ with heap := g } ys nw) : LCg.CompSrc prog w A h₀ L m env elt x scope cl Fin (.ref ax) s₁ := by
  have hsz2 : (List.toArray vs).size = vs.length := by simp
  refine LCg.CompSrc.ledger hh F N hm (by rw [hsz2, sizeLine_eq]; omega) fun g => ?_
  rw [hsz2]
  refine comp_inv (n := vs.length) J ?_ (fun ys nw h => fin g ys nw h) vs.length 0 [] news (Nat.zero_add _) hj
  intro i v ys nw I oI C oC D m₂ h tk E' hi hP hJ hC hx F N off _
  refine wpAny_mono (turn i v ys nw I oI C oC D m₂ h tk E' (by simpa using hP) hJ hC hx F N off) (fun y s₂ h₂ => ?_) fun _ _ e => e
  cases h₂ with
  | mk F' N' sub off' J' => exact LCg.CompEnd.intro F' N' _ sub off' (.inr ⟨_, hJm _ _ _ J', rfl, _, rfl⟩) J'
/-- the same over range(a, a + n) -/
theorem comp_range {elt : Expr} {x : Str} {scope : Scope} {cl : List (Str × Addr)} {Fin : Shared → List Value → Led → Prop} {r : Addr} {t u v : Tok} {n : Nat} {a b : Int} {news : Led} {s₁ : Shared} (J : Nat → List Value → Led → Prop)
    (hh : A.handled = none) (F : Fr h₀ L s₁.heap m) (N : News h₀ L s₁.heap news) (hr : IsRange s₁.heap r a b 1 t u v) (hsm : Builtin.Range.small a b 1 = true) (hsz : Builtin.Range.rangeSize a b 1 = (n : Int)) (hn : n ≤ 1000) (hj : J 0 [] news)
    (turn : ∀ i t ys nw I oI C oC D m₂ h tk (E' : Value → Shared → Prop), i < n → J i ys nw → LCg.NsObj oC m₂ → m₂ x = some (.int (a + (i : Nat)) t) → Fr h₀ L h m → News h₀ L h ((I, oI) :: (C, oC) :: (D, LCg.lst ys) :: nw) → LCg.Off3 I C D nw →
      wpAny (model prog w) A (eval elt (compEnvC scope cl C env)) (REnd h₀ L m { s₁ with heap := h, toks := tk } I oI C oC D (LCg.lst ys) (fun y nw' => J (i + 1) (ys ++ [y]) nw')) E' { s₁ with heap := h, toks := tk })
    (fin : ∀ g ys nw, J n ys nw → Fin { s₁ with heap := g } ys nw) : LCg.CompSrc prog w A h₀ L m env elt x scope cl Fin (.ref r) s₁ := by
  refine LCg.CompSrc.range hh F N hr hsm hsz (by rw [sizeLine_eq]; omega) fun g => ?_
  refine comp_inv (n := n) J ?_ (fun ys nw h => fin g ys nw h) n 0 [] news (Nat.zero_add _) hj
  rintro i v ys nw I oI C oC D m₂ h tk E' hi ⟨t', rfl⟩ hJ hC hx F N off _
  refine wpAny_mono (turn i t' ys nw I oI C oC D m₂ h tk E' hi hJ hC hx F N off) (fun y s₂ h₂ => ?_) fun _ _ e => e
  cases h₂ with
  | mk F' N' sub off' J' => exact LCg.CompEnd.intro F' N' _ sub off' trivial J'
theorem ne_same {E : Value → Shared → Prop} {a b : Addr} {xs ys : List Value} {ns : List Int} {Q : Value → Shared → Prop} (ha : s.heap.IsList a xs.toArray) (hb : s.heap.IsList b ys.toArray) (hi : IntsAre xs ns) (hj : IntsAre ys ns) (hu : A.units + 64 < cLine) (h : Q (.bool false) s) :
    wpAny (model prog w) A (compareOp .NotEq (.ref a) (.ref b)) Q E s := ke_ne_ints ha hb hi hj hu (by rw [decide_eq_true rfl]; exact h)
theorem eq_same {E : Value → Shared → Prop} {a b : Addr} {xs ys : List Value} {ns : List Int} {Q : Value → Shared → Prop} (ha : s.heap.IsList a xs.toArray) (hb : s.heap.IsList b ys.toArray) (hi : IntsAre xs ns) (hj : IntsAre ys ns) (hu : A.units + 64 < cLine) (h : Q (.bool true) s) :
    wpAny (model prog w) A (compareOp .Eq (.ref a) (.ref b)) Q E s := ke_eq_ints ha hb hi hj hu (by rw [decide_eq_true rfl]; exact h)
theorem m_itemAt {E : Value → Shared → Prop} {l : Addr} {vs : List Value} {n : Nat} {news : Led} {value slice : Expr} {i : Nat} {u : Tok} {v : Value} {Q : Value → Shared → Prop} (N : News h₀ L s.heap news) (hm : (l, listOf vs.toArray n) ∈ news) (hv : vs[i]? = some v) (hfit : i < 10000) (h : Q v s)
    (hs : subscripted slice false (.ref l) (.int (i : Int) u) = operate [.ref l, .int (i : Int) u] (getItem (.ref l) (.int (i : Int) u)) := by with_unfolding_all rfl) (hg : ∀ r, letTemporaryGo value (.ref l) r = pure () := by intro _; with_unfolding_all rfl) :
    wpAny (model prog w) A (subscriptTail value slice (.ref l) (.int (i : Int) u)) Q E s :=
  item_listL (isList_led N hm) (by omega) (by omega) (by simpa using hv) h hs hg
end
end
section
section
local macro_rules | `(tactic| walk_at "call ref cons nil") => `(tactic| (k_here; (with_reducible show wpAny _ _ (call (Value.ref 80) [_, _, _, _]) _ _ _); k_dflt (refine' mkStep ?B ?F ?X ?N ?T ?k ?d ?u ?_; k_extra "m_ctx"; intro x9 dx9 h1 h2 h3 h4 h5 h6 t1 t2 t3 t4 t5 t6 t7 h9 tk9 F9 N9 l9 l8; (k_lt l9); (k_lt2 l8); (try k_sweep))))
local macro_rules | `(tactic| walk_at "call ref cons nil") => `(tactic| (k_here; (with_reducible show wpAny _ _ (call (Value.ref 101) [_]) _ _ _); k_dflt (refine' mkBlock ?B ?F ?X ?N ?T ?k ?d ?u ?_; k_extra "m_ctx"; intro x9 dx9 sl9 h1 h2 h3 t1 t2 t3 h9 tk9 F9 N9 l9 l8 l7; (k_lt l9); (k_lt2 l8); (try k_sweep))))
local macro_rules | `(tactic| walk_at "call ref cons nil") => `(tactic| (k_here; (with_reducible show wpAny _ _ (call (Value.ref 122) [_]) _ _ _); k_dflt (refine' mkFunc ?B ?F ?X ?N ?T ?k ?d ?u ?_; k_extra "m_ctx"; intro x9 dx9 pl9 sl9 bl9 h1 h2 h3 h4 h5 h6 h7 t1 t2 t3 t4 t5 t6 t7 t8 h9 tk9 F9 N9 l9 l8 l7 l6 l5; (try k_lt l9); (k_lt2 l8); (try k_sweep))))
local macro_rules | `(tactic| walk_at "call ref cons nil") => `(tactic| (k_here; (with_reducible show wpAny _ _ (call (Value.ref 188) [Value.ref _, Value.int _ _]) _ _ _); k_dflt (refine' DrawSpec.use (step _ _ _ ?z1) ?B ?F ?X ?N ?P ?off ?T ?k ?W ?I ?pre ?b ?d ?u ?_; k_extra "m_draw"; (case z1 => omega); (case pre => trivial); intro r9 rest9 o9 h9 tk9 F9 N9 G9 off9 W9 I9 ho9; (try simp only [List.nil_append, List.cons_append] at N9); (try k_sweep))))

local macro_rules | `(tactic| walk_at "call type:list") => `(tactic| (k_here; (with_reducible show wpAny _ _ (call (Value.type _) [Value.ref _]) _ _ _); k_dflt (refine' kll_range ?k0 ?k1 ?k2 ?k3 ?k4 ?k5 ?k6 ?_; (case k0 => rfl); (case k1 => k_asm); (case k2 => k_asm); (case k3 => assumption); (case k4 => exact small_one (by omega) (by omega) (by omega) (by omega)); (case k5 => exact rangeSize0 _); (case k6 => omega); intro D' vs' c' h' tk' F' N' l1 hI'; (try k_lt l1); (try k_sweep))))
/-- the slots drawn so far -/
def SlotsJ (i : Nat) (ys : List Value) (rest : Led) : Prop := ∃ ds : List (Int × Int), All2 (SlotAt rest) ys ds ∧ (∀ s ∈ ds, 0 ≤ s.1 ∧ s.1 ≤ 20 ∧ (s.2 = 1 ∨ s.2 = 2 ∨ s.2 = 4 ∨ s.2 = 8)) ∧ ds.length = i
def StepsJ (n : Nat) (i : Nat) (ys : List Value) (rest : Led) : Prop := ∃ ss : List StepD, All2 (StepAt rest) ys ss ∧ (∀ st ∈ ss, StepOk st ∧ (st.kind = .slot → st.more < n) ∧ st.kind ≠ .give) ∧ ss.length = i
/-- the blocks drawn so far -/
inductive BlocksJ (nm wa bl : Addr) (ex3 rest₀ : Led) (b : Int) (n i : Nat) : Led → Prop
  | mk {o : Obj} {bvs : List Value} {e : Nat} {rest : Led} {bs : List BlockD} (G : Grow (wa :: bl :: ex3.map (·.1)) rest₀ rest) (W : WellObj nm (b + 90 * i) o) (I : NumsAt nm rest) (A : All2 (BlockAt rest) bvs bs) (hb : ∀ q ∈ bs, BlockOk n q) (hl : bs.length = i) :
      BlocksJ nm wa bl ex3 rest₀ b n i ((wa, o) :: (bl, listOf (List.toArray bvs) e) :: (ex3 ++ rest))
theorem function (w : World) : DrawSpec w 193 300 14 (fun _ => True) (fun v => [v]) (fun rest r => ∃ d, FuncAt rest r d ∧ FuncOk d) := by
  w_top off
  k_with_none
  k_with "m_rst" => first | (with_reducible apply Rst.nil) | (with_reducible apply Rst.cons; k_extra "m_rst")
  k_with "m_pick" => first | (with_reducible apply Pick.head; k_extra "m_rst") | (with_reducible apply Pick.tail; k_extra "m_pick")
  k_with "m_draw" => (
  (case N => k_asm); (case P => k_extra "m_pick"); (case B => k_asm); (case F => k_asm); (case X => k_asm);
  (case off => ((try simp only [List.nil_append, List.cons_append]); k_all)); (case T => k_asm); (case k => first | exact rfl | assumption); (case W => assumption); (case I => assumption);
  (case b => omega); (case d => ktr_room); (case u => ktr_units))
  k_with "m_al" => first | assumption | exact And.right (by assumption) | exact And.right (And.right (by assumption)) | exact And.right (And.right (And.right (by assumption))) | exact And.right (And.right (And.right (And.right (by assumption)))) | exact And.right (And.right (And.right (And.right (And.right (by assumption))))) | exact And.right (And.right (And.right (And.right (And.right (And.right (by assumption)))))) | exact And.right (And.right (And.right (And.right (And.right (And.right (And.right (by assumption))))))) | exact And.right (And.right (And.right (And.right (And.right (And.right (And.right (And.right (by assumption)))))))) | exact And.right (And.right (And.right (And.right (And.right (And.right (And.right (And.right (And.right (by assumption))))))))) | exact And.right (And.right (And.right (And.right (And.right (And.right (And.right (And.right (And.right (And.right (by assumption)))))))))) | exact And.right (And.right (And.right (And.right (And.right (And.right (And.right (And.right (And.right (And.right (And.right (by assumption))))))))))) | exact And.right (And.right (And.right (And.right (And.right (And.right (And.right (And.right (And.right (And.right (And.right (And.right (by assumption)))))))))))) | exact And.right (And.right (And.right (And.right (And.right (And.right (And.right (And.right (And.right (And.right (And.right (And.right (And.right (by assumption))))))))))))) | exact And.right (And.right (And.right (And.right (And.right (And.right (And.right (And.right (And.right (And.right (And.right (And.right (And.right (And.right (by assumption)))))))))))))) | exact And.right (And.right (And.right (And.right (And.right (And.right (And.right (And.right (And.right (And.right (And.right (And.right (And.right (And.right (And.right (by assumption))))))))))))))) | exact And.right (And.right (And.right (And.right (And.right (And.right (And.right (And.right (And.right (And.right (And.right (And.right (And.right (And.right (And.right (And.right (by assumption)))))))))))))))) | exact And.right (And.right (And.right (And.right (And.right (And.right (And.right (And.right (And.right (And.right (And.right (And.right (And.right (And.right (And.right (And.right (And.right (by assumption))))))))))))))))) | exact And.right (And.right (And.right (And.right (And.right (And.right (And.right (And.right (And.right (And.right (And.right (And.right (And.right (And.right (And.right (And.right (And.right (And.right (by assumption)))))))))))))))))) | exact AllLt.up (by assumption) (by k_extra "m_al")
  k_with "m_cells" => first | k_extra "m_cellsG" | (simp only [List.map_append, List.map_cons, List.cons_append, List.nil_append, List.mem_cons, List.map_nil, List.mem_append]; intro x hx; first | assumption | (rcases hx with hx | hx <;> simp only [hx, true_or, or_true]))
  k_with "m_grow" => first | (with_reducible exact Grow.refl) | (with_reducible refine Grow.add ?_ ?_; k_extra "m_grow"; exact cellsNe (by first | k_extra "m_lt" | omega) (by k_extra "m_al")) | (with_reducible refine Grow.transR (by assumption) ?_ ?_; k_extra "m_cells"; k_extra "m_grow")
  k_with "m_cell1" => (simp only [List.map_append, List.map_cons, List.cons_append, List.nil_append, List.mem_cons, List.map_nil, List.mem_append, true_or, or_true]; done)
  k_with "m_mem" => first | exact List.Mem.head _ | (refine List.Mem.tail _ ?_; k_extra "m_mem")
  k_with "m_sub" => (intro p hp; simp only [List.mem_cons, hp, or_true])
  k_with "m_ctx" => ((case N => k_asm); (case B => k_asm); (case F => k_asm); (case X => k_asm); (case T => k_asm); (case k => first | exact rfl | assumption); (case d => ktr_room); (case u => ktr_units))
  k_with "m_subR" => (intro p hp; simp only [List.mem_cons, List.mem_append, hp, or_true])
  k_with "m_memT" => first | assumption | exact List.Mem.head _ | (refine List.Mem.tail _ ?_; k_extra "m_memT")
  k_with "m_mq" => first | (with_reducible exact List.mem_cons_self) | ((with_reducible refine List.mem_cons_of_mem _ ?_); k_extra "m_mq") | ((with_reducible refine List.mem_append_left _ ?_); k_extra "m_mq") | ((with_reducible refine List.mem_append_right _ ?_); k_extra "m_mq") | (with_reducible assumption)
  k_with "m_sq" => first | (with_reducible exact fa_self) | ((with_reducible refine fa_tail ?_); k_extra "m_sq") | ((with_reducible refine fa_left ?_); k_extra "m_sq") | ((with_reducible refine fa_right ?_); k_extra "m_sq") | (with_reducible assumption)
  k_with "m_perm" => ((repeat' (with_reducible first | refine fa_cons ?_ ?_ | refine fa_app ?_ ?_ | exact fa_nil)); all_goals (first | k_extra "m_mq" | k_extra "m_sq"))
  k_with "m_cellsG" => ((try simp only [List.cons_append, List.nil_append, List.map_cons, List.map_append]); k_extra "m_perm")
  k_with "exec Assign cons ListComp" => walk_at "exec Assign"
  k_with "m_lt" => first | (with_reducible exact Nat.lt_succ_self _) | ((with_reducible refine Nat.lt_succ_of_lt ?_); k_extra "m_lt") | (with_reducible assumption) | (with_reducible exact And.left (by assumption)) | (with_reducible exact And.left (And.right (by assumption))) | (with_reducible exact And.left (And.right (And.right (by assumption)))) | (with_reducible exact And.left (And.right (And.right (And.right (by assumption))))) | (with_reducible exact And.left (And.right (And.right (And.right (And.right (by assumption)))))) | (with_reducible exact And.left (And.right (And.right (And.right (And.right (And.right (by assumption))))))) | (with_reducible exact And.left (And.right (And.right (And.right (And.right (And.right (And.right (by assumption)))))))) | (with_reducible exact And.left (And.right (And.right (And.right (And.right (And.right (And.right (And.right (by assumption))))))))) | (with_reducible exact And.left (And.right (And.right (And.right (And.right (And.right (And.right (And.right (And.right (by assumption)))))))))) | (with_reducible exact And.right (by assumption)) | (with_reducible exact And.right (And.right (by assumption))) | (with_reducible exact And.right (And.right (And.right (by assumption)))) | (with_reducible exact And.right (And.right (And.right (And.right (by assumption))))) | ((with_reducible refine Nat.lt_trans ?_ (by assumption)); k_extra "m_lt")
  k_with "m_ne" => first | (with_reducible assumption) | (with_reducible exact Ne.symm (by assumption)) | (with_reducible exact Ne.symm (And.left (by assumption))) | (with_reducible exact Ne.symm (And.left (And.right (by assumption)))) | (with_reducible exact And.left (by assumption)) | (with_reducible exact And.left (And.right (by assumption))) | exact Nat.ne_of_gt (by k_extra "m_lt") | exact Nat.ne_of_lt (by k_extra "m_lt") | omega
  k_with "m_rm" => first | (with_reducible exact room1 (by assumption) (Nat.le_of_ble_eq_true rfl)) | (with_reducible exact room2 (by assumption) (Nat.le_of_ble_eq_true rfl)) | (with_reducible exact room3 (by assumption) (Nat.le_of_ble_eq_true rfl)) | ((simp only [depth_under_make, depth_under_kw, depth_in1, depth_deeper, depth_caller, units_in1, units_deeper, Around.mark_units, units_caller]); (try dsimp only [ktrTop]); first | (with_reducible exact room1 (by assumption) (Nat.le_of_ble_eq_true rfl)) | (with_reducible exact room2 (by assumption) (Nat.le_of_ble_eq_true rfl)) | (with_reducible exact room3 (by assumption) (Nat.le_of_ble_eq_true rfl)))
  k_with "CompSrc" => refine hold ?_
  k_with "call builtin:len" => (k_here; (with_reducible show wpAny _ _ (call (Value.builtin "len") [Value.ref _]) _ _ _); k_dflt (refine' m_len (by k_asm) (by k_mem) (by omega) ?_; intro _ _))
  k_with "exec For Name Call cons nil" => (k_here; with_unfolding_all refine For_invTF (by assumption) ?_ (by intro _; rfl))
  k_with "pyIter ref" => ((with_reducible show wpAny _ _ (pyIter (Value.ref _)) (fun it s₂ => LoopAtT _ _ _ _ _ _ _ _ _ it s₂) _ _); refine hold ?_)
  (have kf : PySem.Challenge.rw_nm0006_01.Holds → Mine.hd.heap_39 w.params = Mine.hd.heap_39 w.params := by k_fill; intro; rfl); clear kf
  intro dp un gd cn cs a ccd cl outer A₀ base h₀ L m mean mg mb wa nm o b ex rest s Q E B F X N hoff T hk hW hN hpre hb hd hu hret
  refine wpAny_call ?_
  k_dflt (walk_at "m_enterC")
  rename_i g' L1 h1 tk1 FG F1 B1 X1 T1 l1 o2 o1 d2 d1 N1
  have offc1 : Off (L1 + 1) (ex ++ rest) := allLt_off (AllLt.up (Nat.lt_succ_self _) l1.2)
  have offc2 : Off (L1 + 1 + 1) (ex ++ rest) := allLt_off (AllLt.up (Nat.lt_succ_of_lt (Nat.lt_succ_self _)) l1.2)
  k_steps
  rename_i x dx pl sl bl h1 h2 h3 h4 h5 h6 h7 t1 t2 t3 t4 t5 t6 t7 t8 hp1 tkp1 l7 l6 l5 l9 l8 hp2 oc2 dc2 restA oA hp3 tkp3 F2 N2 G1 offA WA IA nS tS hnS hp4 tkp4 ta ub vc hr F3 N3 hkeep
  unfold Hold
  have offdx : Off dx (ex ++ restA) := G1.off (by k_extra "m_cell1") (allLt_off (by k_extra "m_al"))
  have offbl : Off bl (ex ++ restA) := G1.off (by k_extra "m_cell1") (allLt_off (AllLt.up (a := dx) (by omega) (by k_extra "m_al")))
  have GA : Grow (wa :: ex.map (·.1)) rest restA := G1.less (by k_extra "m_cells")
  clear N2 F2
  have offA2 : Off wa (((bl, listOf #[] 0) :: (sl, listOf #[] 0) :: (pl, listOf #[] 0) :: (x, instObj 122 dx) ::
      (dx, funcDict h1 h2 h3 h4 h5 h6 h7 t1 t2 t3 t4 t5 t6 t7 t8 (.str (Str.ofString "g") tk1) (.ref pl) (.ref sl) (.ref bl)) :: (L1 + 1 + 1, oc2) :: (L1 + 1, o1) :: ex) ++ restA) := by
    simp only [List.cons_append, off_cons]
    refine ⟨?_, ?_, ?_, ?_, ?_, ?_, ?_, offA⟩ <;> k_extra "m_ne"
  obtain ⟨ex2, hex2⟩ : ∃ e : Led, e = (bl, listOf #[] 0) :: (sl, listOf #[] 0) :: (pl, listOf #[] 0) :: (x, instObj 122 dx) ::
      (dx, funcDict h1 h2 h3 h4 h5 h6 h7 t1 t2 t3 t4 t5 t6 t7 t8 (.str (Str.ofString "g") tk1) (.ref pl) (.ref sl) (.ref bl)) :: (L1 + 1 + 1, oc2) :: (L1 + 1, o1) :: ex := ⟨_, rfl⟩
  rw [← hex2] at offA2
  have NF : News g' L1 hp4 ((wa, oA) :: (ex2 ++ restA)) := by rw [hex2]; exact N3
  have mc : (L1 + 1, o1) ∈ ex2 := by rw [hex2]; k_extra "m_mem"
  have hHide : ∀ oo rr, (wa, oo) :: (ex2 ++ rr) = (wa, oo) :: (bl, listOf #[] 0) :: (sl, listOf #[] 0) :: (pl, listOf #[] 0) :: (x, instObj 122 dx) ::
      (dx, funcDict h1 h2 h3 h4 h5 h6 h7 t1 t2 t3 t4 t5 t6 t7 t8 (.str (Str.ofString "g") tk1) (.ref pl) (.ref sl) (.ref bl)) :: (L1 + 1 + 1, oc2) :: (L1 + 1, o1) :: (ex ++ rr) := fun oo rr => by rw [hex2]; rfl
  clear N3
  refine compSrc_range0 (n := nS) (by rfl) F3 NF hr (by omega) (fun g => comp_draw (b := b + 1) (k := 2) SlotsJ (by omega) offA2 WA IA ⟨[], .nil, nofun, rfl⟩ ?turnS ?finS)
  case turnS =>
    clear NF F3 hr hkeep hHide offdx offbl G1 GA offA2 offA WA IA hret
    rintro i v ys I oI C oC D m₂ h tk E' oT restT hi ⟨tv, rfl⟩ hs off W I' ⟨ds, A2, hds, hl⟩ hC hx F N hIw hCw hDw
    k_steps
    rename_i hq tq cE1 qk1 ek1 restB oB hB tkB GB offB WB IB iB tB hiB cE2 qk2 ek2 M1 hM lM cE3 restC oC2 hC2 tkC GC offC2 WC IC iC tC hiC tT T1 hT FT NT lT
    refine DEnd.mk (rest' := (T1, { cls := .type "tuple", data := .seq #[.int (iB : Nat) tB, .int ([1, 2, 4, 8].getD ((iC : Nat) : Int).toNat 0) tT] }) :: restC) FT NT (by k_extra "m_perm") ?_ (WC.le (by omega)) ⟨ds ++ [(_, _)], (A2.imp fun _ _ => SlotAt.mono fun p hp => .tail _ (GC.1 _ (GB.1 _ hp))).snoc (.mk (.head _)), ?_, by rw [List.length_append, hl]; rfl⟩
    · exact Grow.addL (l := (wa, oC2) :: (M1, tup [.int 1 tkB, .int 2 (tkB + 1), .int 4 (tkB + 1 + 1), .int 8 (tkB + 1 + 1 + 1)]) :: (I, oI) :: (C, oC) :: (D, LCg.lst ys) :: ex2) (r := restC) ((GB.less (by k_extra "m_cellsG")).trans GC (by k_extra "m_cellsG")) lT (by k_extra "m_cellsG")
    · intro q hq
      rcases List.mem_append.mp hq with hq | hq
      · exact hds q hq
      · have e := List.mem_singleton.mp hq
        subst e
        have h4 : iC = 0 ∨ iC = 1 ∨ iC = 2 ∨ iC = 3 := by omega
        refine ⟨by show (0 : Int) ≤ (iB : Nat); omega, by show ((iB : Nat) : Int) ≤ 20; omega, ?_⟩
        rcases h4 with h4 | h4 | h4 | h4 <;> subst h4
        · exact .inl rfl
        · exact .inr (.inl rfl)
        · exact .inr (.inr (.inl rfl))
        · exact .inr (.inr (.inr rfl))
  case finS =>
    intro ys oB restB GB offB WB IB ⟨ds, A2, hds, hl⟩
    rw [hHide]
    have hdl : ds.length ≤ 4 := by omega
    have hyl := A2.length
    have odx : Off dx (ex ++ restB) := GB.off (by rw [hex2]; k_extra "m_cell1") offdx
    have obl : Off bl (ex ++ restB) := GB.off (by rw [hex2]; k_extra "m_cell1") offbl
    have offB' : Off wa (ex ++ restB) := GB.off (by k_extra "m_cell1") offA
    have GB' : Grow (wa :: ex.map (·.1)) rest restB := Grow.trans GA (GB.less (by rw [hex2]; k_extra "m_cellsG")) (fun _ h => h)
    clear hHide mc hr NF F3 hkeep offA2 offB GB GA G1 offdx offbl
    clear hex2
    k_steps
    rename_i hq1 tq1 D0 hq2 tq2 oD hq3 tq3 restP oP hq4 tq4 GP offP WP IP nP tP hnP hq5 tq5 ta1 ua1 va1 hrP hk1 P0 pvs pc hq6 tq6 hpI lP hq7 restN oN hq8 tq8 FN NN GN offN WN IN' nN tN hnN hq9 tq9 ta2 ua2 va2 hrN FL NL hk2
    unfold Hold
    have GN2 : Grow (wa :: ex.map (·.1)) rest restN := Grow.trans (Grow.trans GB' (GP.less (by k_extra "m_cellsG")) (fun _ h => h)) (GN.less (by k_extra "m_cellsG")) (fun _ h => h)
    have obl2 : Off bl (ex ++ restN) := GN.off (by k_extra "m_cell1") (GP.off (by k_extra "m_cell1") obl)
    have A2N := A2.imp fun _ _ => SlotAt.mono fun p hp => GN.1 _ (GP.1 _ hp)
    have oD' := off1_off (l := (wa, oB) :: (bl, listOf #[] 0) :: (sl, listOf #[] 0) :: (pl, listOf #[] 0) :: (x, instObj 122 dx) :: (dx, listOf #[] 0) :: (L1 + 1 + 1, oc2) :: (L1 + 1, o1) :: (ex ++ restB)) oD
    have lP' := allLt_off (l := (wa, oP) :: (D0, listOf #[] 0) :: (bl, listOf #[] 0) :: (sl, listOf #[] 0) :: (pl, listOf #[] 0) :: (x, instObj 122 dx) :: (dx, listOf #[] 0) :: (L1 + 1 + 1, oc2) :: (L1 + 1, o1) :: (ex ++ restP)) lP
    have lX' : Off dx ((L1 + 1 + 1, oc2) :: (L1 + 1, o1) :: (wa, oA) :: (ex ++ rest)) := allLt_off l9
    have hsl : ds.length = nS := hl
    have offW3 : Off wa (((P0, listOf (List.toArray pvs) pc) :: (D0, LCg.lst ys) :: (x, instObj 122 dx) ::
      (dx, funcDict h1 h2 h3 h4 h5 h6 h7 t1 t2 t3 t4 t5 t6 t7 t8 (.str (Str.ofString "g") tk1) (.ref P0) (.ref D0) (.ref bl)) :: (L1 + 1 + 1, oc2) :: (L1 + 1, o1) :: ex) ++ restN) := by
      simp only [List.cons_append, off_cons]
      exact ⟨Nat.ne_of_gt lP.1, Ne.symm oD.1, by k_extra "m_ne", by k_extra "m_ne", by k_extra "m_ne", by k_extra "m_ne", offN⟩
    have offB3 : Off bl (((P0, listOf (List.toArray pvs) pc) :: (D0, LCg.lst ys) :: (x, instObj 122 dx) ::
      (dx, funcDict h1 h2 h3 h4 h5 h6 h7 t1 t2 t3 t4 t5 t6 t7 t8 (.str (Str.ofString "g") tk1) (.ref P0) (.ref D0) (.ref bl)) :: (L1 + 1 + 1, oc2) :: (L1 + 1, o1) :: ex) ++ restN) := by
      simp only [List.cons_append, off_cons]
      exact ⟨Nat.ne_of_gt lP.2.2.1, Ne.symm oD.2.1, by k_extra "m_ne", by k_extra "m_ne", by k_extra "m_ne", by k_extra "m_ne", obl2⟩
    have hwb : @Ne Nat wa bl := by k_extra "m_ne"
    clear lP oD l5 l6 l7 odx offP offB' GN GP obl
    obtain ⟨ex3, hex3⟩ : ∃ e : Led, e = (P0, listOf (List.toArray pvs) pc) :: (D0, LCg.lst ys) :: (x, instObj 122 dx) ::
      (dx, funcDict h1 h2 h3 h4 h5 h6 h7 t1 t2 t3 t4 t5 t6 t7 t8 (.str (Str.ofString "g") tk1) (.ref P0) (.ref D0) (.ref bl)) :: (L1 + 1 + 1, oc2) :: (L1 + 1, o1) :: ex := ⟨_, rfl⟩
    rw [← hex3] at offW3 offB3
    have NM : News g' L1 hq9 ((wa, oN) :: (bl, listOf (List.toArray []) 0) :: (ex3 ++ restN)) := by rw [hex3]; exact News.sub' NL (by k_extra "m_perm")
    have mP : (P0, listOf (List.toArray pvs) pc) ∈ ex3 := by rw [hex3]; k_extra "m_memT"
    have mD : (D0, listOf (List.toArray ys) ys.length) ∈ ex3 := by rw [hex3]; k_extra "m_memT"
    have mx : (x, instObj 122 dx) ∈ ex3 := by rw [hex3]; k_extra "m_memT"
    have mdx : (dx, funcDict h1 h2 h3 h4 h5 h6 h7 t1 t2 t3 t4 t5 t6 t7 t8 (.str (Str.ofString "g") tk1) (.ref P0) (.ref D0) (.ref bl)) ∈ ex3 := by rw [hex3]; k_extra "m_memT"
    have mc1 : (L1 + 1, o1) ∈ ex3 := by rw [hex3]; k_extra "m_memT"
    have mc2 : (L1 + 1 + 1, oc2) ∈ ex3 := by rw [hex3]; k_extra "m_memT"
    clear NN FN NL
    rw [show (1 + (nN : Int)) = ((1 + nN : Nat) : Int) from by omega] at hrN
    refine iter_range (n := 1 + nN) (fun i _ nw => BlocksJ nm wa bl ex3 restN (b + 20) ds.length i nw) (by rfl) hrN (by omega) (fun _ _ => rfl) FL NM ?hjB ?turnB ?doneB
    case hjB => exact .mk Grow.refl (WN.le (by omega)) IN' .nil nofun rfl
    case turnB =>
      rintro i t m₁ nw s₁ I oI hi ⟨G, W, I', A3, hbs, hbl⟩ offI F3 N3
      clear hex3 NM FL hrN hret lP' oD' lX' GN2 offc1 offc2 l9 hoff
      rename_i o' bvs e rest' bs
      have offW : Off wa (ex3 ++ rest') := G.off (by k_extra "m_cell1") offW3
      have offB : Off bl (ex3 ++ rest') := G.off (by k_extra "m_cell1") offB3
      have hIw : @Ne Nat I wa := Ne.symm (offI _ (.head _))
      have hIb : @Ne Nat I bl := Ne.symm (offI _ (.tail _ (.head _)))
      have offIr : Off I (ex3 ++ rest') := (off_cons.mp (off_cons.mp offI).2).2
      clear offW3 offB3
      k_steps
      rename_i tkO hb1 tkb1 bx bdx bsl k1 k2 k3 u1 u2 u3 hb2 tkb2 b7 b9 b8 hb3 restR oR hb4 tkb4 FR NR GR offR WR IR nR tR hnR hb5 tkb5 ta3 ua3 va3 hrR FC NC hkC
      unfold Hold
      have b9' : Off bdx ((I, oI) :: (wa, o') :: (bl, oI) :: (ex3 ++ rest')) := allLt_off b9
      have b9x : Off bx ((I, oI) :: (wa, o') :: (bl, oI) :: (ex3 ++ rest')) := allLt_off (AllLt.up b8 (l := (I, oI) :: (wa, o') :: (bl, oI) :: (ex3 ++ rest')) b9)
      have offB2 : Off bl (ex3 ++ restR) := GR.off (by k_extra "m_cell1") offB
      have offI2 : Off I (ex3 ++ restR) := GR.off (by k_extra "m_cell1") offIr
      have offbd : Off bdx (ex3 ++ restR) := GR.off (by k_extra "m_cell1") (allLt_off (by k_extra "m_al"))
      have GR2 : Grow (I :: wa :: bl :: ex3.map (·.1)) rest' restR := GR.less (by k_extra "m_cellsG")
      have offR4 : Off wa (((bsl, listOf #[] 0) :: (bx, instObj 101 bdx) :: (bdx, blockDict k1 k2 k3 u1 u2 u3 (.int (i : Nat) t) (.ref bsl) .none) :: (I, oI) :: (bl, listOf (List.toArray bvs) e) :: ex3) ++ restR) := by
        simp only [List.cons_append, off_cons]
        refine ⟨?_, ?_, ?_, hIw, Ne.symm hwb, offR⟩ <;> k_extra "m_ne"
      have hbb : (@Ne Nat I bdx) ∧ (@Ne Nat bl bdx) ∧ (@Ne Nat I bl) ∧ (@Ne Nat bx bdx) ∧ (@Ne Nat bsl bdx) ∧ (@Ne Nat wa bdx) ∧ (@Ne Nat bx bl) ∧ (@Ne Nat bsl bl) ∧ (@Ne Nat bsl wa) ∧ (@Ne Nat bx wa) ∧ (@Ne Nat bdx wa) ∧ (@Ne Nat bl wa) := by refine ⟨?_, ?_, ?_, ?_, ?_, ?_, ?_, ?_, ?_, ?_, ?_, ?_⟩ <;> k_extra "m_ne"
      obtain ⟨ex4, hex4⟩ : ∃ e4 : Led, e4 = (bsl, listOf #[] 0) :: (bx, instObj 101 bdx) :: (bdx, blockDict k1 k2 k3 u1 u2 u3 (.int (i : Nat) t) (.ref bsl) .none) :: (I, oI) :: (bl, listOf (List.toArray bvs) e) :: ex3 := ⟨_, rfl⟩
      rw [← hex4] at offR4
      have NC2 : News g' L1 hb5 ((wa, oR) :: (ex4 ++ restR)) := by rw [hex4]; exact News.sub' NC (by k_extra "m_perm")
      have hHide4 : ∀ oo rr, (wa, oo) :: (ex4 ++ rr) = (wa, oo) :: (bsl, listOf #[] 0) :: (bx, instObj 101 bdx) :: (bdx, blockDict k1 k2 k3 u1 u2 u3 (.int (i : Nat) t) (.ref bsl) .none) :: (I, oI) :: (bl, listOf (List.toArray bvs) e) :: (ex3 ++ rr) := fun oo rr => by rw [hex4]; rfl
      have mD4 : (D0, listOf (List.toArray ys) ys.length) ∈ ex4 := by rw [hex4]; k_extra "m_memT"
      have mx4 : (x, instObj 122 dx) ∈ ex4 := by rw [hex4]; k_extra "m_memT"
      have mdx4 : (dx, funcDict h1 h2 h3 h4 h5 h6 h7 t1 t2 t3 t4 t5 t6 t7 t8 (.str (Str.ofString "g") tk1) (.ref P0) (.ref D0) (.ref bl)) ∈ ex4 := by rw [hex4]; k_extra "m_memT"
      have mc14 : (L1 + 1, o1) ∈ ex4 := by rw [hex4]; k_extra "m_memT"
      have mc24 : (L1 + 1 + 1, oc2) ∈ ex4 := by rw [hex4]; k_extra "m_memT"
      clear NC NR FR b7 b8 b9 hkC
      refine compSrc_range0 (n := nR) (by rfl) FC NC2 hrR (by omega) (fun g => comp_draw (b := b + 20 + 90 * i + 1) (k := 20) (StepsJ ds.length) (by omega) offR4 WR IR ⟨[], .nil, nofun, rfl⟩ ?turnC ?finC)
      case turnC =>
        clear hex4 NC2 FC hrR hHide4 offB2 offI2 offbd GR2 offR4 hbb b9' b9x WR IR GR offR N3 F3 A3 hbs W offI offIr offB offW I' G
        rintro j v zs I2 oI2 C2 oC2 D2 m₂ h tk E' o'' rest'' hj ⟨tv, rfl⟩ hs2 off2 W2 I2' ⟨ss, A4, hss, hsl2⟩ hC hx F N hIw2 hCw2 hDw2
        k_steps
        rename_i rS rest9 o9 h9 tk9 F9 N9 G9 off9 W9 I9 ho9
        obtain ⟨st, hS, hk1, hk2, hk3⟩ := ho9
        rw [hyl] at hk2
        refine DEnd.mk (rest' := rest9) F9 N9 (by k_extra "m_perm") (G9.less (by k_extra "m_cellsG")) (W9.le (by omega)) ⟨ss ++ [st], (A4.imp fun _ _ => StepAt.mono G9.1).snoc hS, ?_, by rw [List.length_append, hsl2]; rfl⟩
        intro q hq
        rcases List.mem_append.mp hq with hq | hq
        · exact hss q hq
        · rw [List.mem_singleton.mp hq]
          exact ⟨hk1, hk2, hk3⟩
      case finC =>
        intro zs oC restC GC offC WC IC ⟨ss, A4, hss, hsl4⟩
        rw [hHide4]
        have offbd2 : Off bdx (ex3 ++ restC) := (GC.off (ex := []) (by rw [hex4]; k_extra "m_cell1") offbd.right) |> fun x => offbd.left.app x
        have offbl2 : Off bl (ex3 ++ restC) := (GC.off (ex := []) (by rw [hex4]; k_extra "m_cell1") offB2.right) |> fun x => offB2.left.app x
        have offI3 : Off I (ex3 ++ restC) := (GC.off (ex := []) (by rw [hex4]; k_extra "m_cell1") offI2.right) |> fun x => offI2.left.app x
        have offC' : Off wa (ex3 ++ restC) := (GC.off (ex := []) (by k_extra "m_cell1") offR.right) |> fun x => offR.left.app x
        have GC2 : Grow (I :: wa :: bl :: ex3.map (·.1)) rest' restC := Grow.trans GR2 (GC.less (by rw [hex4]; k_extra "m_cellsG")) (fun _ h => h)
        have hbv : bvs.length ≤ 3 := by rw [A3.length, hbl]; omega
        obtain ⟨hbb1, hbb2, hbb3, hbb4, hbb5, hbb6, hbb7, hbb8, hbb9, hbb10, hbb11, hbb12⟩ := hbb
        clear hHide4 hex4 NC2 FC hrR offR4 mD4 mx4 mdx4 mc14 mc24 offbd offB2 offI2 GC GR GR2 offC offR
        k_steps
        rename_i gq tkq D4 hq1' tkq1 oD4 hq2' tkE restE oE hE tkE2 GE offE WE IE nE tE hnE rO restO oO hO2 tkO2 GO offO WO IO opds hO hlO sx sdx g1 g2 g3 g4 g5 g6 v1 v2 v3 v4 v5 v6 v7 hS2 tkS2 s9 s8 hA tkA hA2 FA NA
        obtain ⟨al, ovs, on, rfl, hal, hops⟩ := hO
        have oD4' : Off D4 ((wa, oC) :: (bsl, oI) :: (bx, oI) :: (bdx, oI) :: (I, oI) :: (bl, oI) :: (ex3 ++ restC)) := off1_off oD4
        have s9' : Off sdx ((wa, oC) :: (D4, oI) :: (bsl, oI) :: (bx, oI) :: (bdx, oI) :: (I, oI) :: (bl, oI) :: (ex3 ++ restO)) := allLt_off s9
        have s9x : Off sx ((wa, oC) :: (D4, oI) :: (bsl, oI) :: (bx, oI) :: (bdx, oI) :: (I, oI) :: (bl, oI) :: (ex3 ++ restO)) := allLt_off (AllLt.up s8 (l := (wa, oC) :: (D4, oI) :: (bsl, oI) :: (bx, oI) :: (bdx, oI) :: (I, oI) :: (bl, oI) :: (ex3 ++ restO)) s9)
        have G0 : Grow (I :: wa :: bl :: ex3.map (·.1)) rest' restO := Grow.trans (Grow.trans GC2 (GE.less (by k_extra "m_cellsG")) (fun _ h => h)) (GO.less (by k_extra "m_cellsG")) (fun _ h => h)
        have GF : Grow (I :: wa :: bl :: ex3.map (·.1)) rest' ((sx, instObj 80 sdx) :: (sdx, stepDict g1 g2 g3 g4 g5 g6 v1 v2 v3 v4 v5 v6 v7 (.str (Str.ofString "give") tkE) (.int (-1) (tkE + 1 + 1)) (.ref al) (.int 0 tkO2)) :: (D4, LCg.lst zs) :: (bx, instObj 101 bdx) ::
            (bdx, blockDict k1 k2 k3 u1 u2 u3 (.int (i : Nat) t) (.ref D4) (.ref sx)) :: restO) := Grow.addA (Grow.addA (Grow.addA (Grow.addA (Grow.addA G0 b9' (by k_extra "m_cellsG")) b9x (by k_extra "m_cellsG")) oD4' (by k_extra "m_cellsG")) s9' (by k_extra "m_cellsG")) s9x (by k_extra "m_cellsG")
        refine TurnEnd.intro (nw := (wa, oO) :: (bl, listOf (List.toArray (bvs ++ [.ref bx])) (e + 1)) :: (ex3 ++ ((sx, instObj 80 sdx) :: (sdx, stepDict g1 g2 g3 g4 g5 g6 v1 v2 v3 v4 v5 v6 v7 (.str (Str.ofString "give") tkE) (.int (-1) (tkE + 1 + 1)) (.ref al) (.int 0 tkO2)) :: (D4, LCg.lst zs) :: (bx, instObj 101 bdx) ::
            (bdx, blockDict k1 k2 k3 u1 u2 u3 (.int (i : Nat) t) (.ref D4) (.ref sx)) :: restO))) FA NA ?hsT ?hoT ?hJT
        case hsT => k_extra "m_perm"
        case hoT => exact off_cons.mpr ⟨Ne.symm hIw, off_cons.mpr ⟨Ne.symm hIb, GF.off (.head _) offIr⟩⟩
        case hJT =>
          refine .mk (bs := bs ++ [⟨ss, ⟨.give, -1, opds, 0⟩⟩]) (Grow.trans G (GF.less fun _ h => .tail _ h) (fun _ h => h)) (WO.le (by omega)) (IO.mono fun p hp => .tail _ (.tail _ (.tail _ (.tail _ (.tail _ hp)))))
            ((A3.imp fun _ _ => BlockAt.mono GF.1).snoc (.mk (.tail _ (.tail _ (.tail _ (.head _)))) (.tail _ (.tail _ (.tail _ (.tail _ (.head _))))) (.tail _ (.tail _ (.head _)))
              (A4.imp fun _ _ => StepAt.mono fun p hp => .tail _ (.tail _ (.tail _ (.tail _ (.tail _ (GO.1 _ (GE.1 _ hp)))))))
              (.mk (.head _) (.tail _ (.head _)) (.tail _ (.tail _ (.tail _ (.tail _ (.tail _ hal))))) (hops.imp fun _ _ => OpdAt.mono fun p hp => .tail _ (.tail _ (.tail _ (.tail _ (.tail _ hp))))) nofun)))
            ?hbT (by rw [List.length_append, hbl]; rfl)
          intro q hq
          rcases List.mem_append.mp hq with hq | hq
          · exact hbs q hq
          · rw [List.mem_singleton.mp hq]
            refine ⟨by show ss.length ≤ 3; omega, hss, ⟨⟨by show (-1 : Int) ≤ -1; omega, by show (-1 : Int) < 6; omega⟩, (fun h => by rcases h with h | h <;> cases h), nofun, by show opds.length ≤ 13; omega, fun _ => rfl⟩, rfl⟩
    case doneB =>
      rintro m₁ nw h tk ⟨G, W, I', A3, hbs, hbl⟩ FD ND
      rename_i o' bvs e rest' bs
      clear hrN FL NM
      k_steps
      rename_i tkZ kF kN Tc kX
      rw [hex3] at kN
      have GZ : Grow (wa :: ex.map (·.1)) rest ((bl, listOf (List.toArray bvs) e) :: (P0, listOf (List.toArray pvs) pc) :: (D0, LCg.lst ys) :: (x, instObj 122 dx) ::
          (dx, funcDict h1 h2 h3 h4 h5 h6 h7 t1 t2 t3 t4 t5 t6 t7 t8 (.str (Str.ofString "g") tk1) (.ref P0) (.ref D0) (.ref bl)) :: rest') := by
        have G1 : Grow (wa :: ex.map (·.1)) restN rest' := G.less (by rw [hex3]; k_extra "m_cellsG")
        have lx2 : Off x ((L1 + 1 + 1, oc2) :: (L1 + 1, o1) :: (wa, oA) :: (ex ++ rest)) := allLt_off (AllLt.up l8 (l := (L1 + 1 + 1, oc2) :: (L1 + 1, o1) :: (wa, oA) :: (ex ++ rest)) l9)
        have lb2 : Off bl ((wa, oA) :: (ex ++ restN)) := off_cons.mpr ⟨hwb, obl2⟩
        exact Grow.addA (Grow.addA (Grow.addA (Grow.addA (Grow.addA (Grow.trans GN2 G1 (fun _ h => h)) lX' (by k_extra "m_cellsG")) lx2 (by k_extra "m_cellsG")) oD' (by k_extra "m_cellsG")) lP' (by k_extra "m_cellsG")) lb2 (by k_extra "m_cellsG")
      have hle : ∀ p, p ∈ rest' → p ∈ ((bl, listOf (List.toArray bvs) e) :: (P0, listOf (List.toArray pvs) pc) :: (D0, LCg.lst ys) :: (x, instObj 122 dx) ::
          (dx, funcDict h1 h2 h3 h4 h5 h6 h7 t1 t2 t3 t4 t5 t6 t7 t8 (.str (Str.ofString "g") tk1) (.ref P0) (.ref D0) (.ref bl)) :: rest') := fun p hp => .tail _ (.tail _ (.tail _ (.tail _ (.tail _ hp))))
      refine hret _ _ _ _ _ kF (News.sub' kN (by k_extra "m_perm")) GZ (W.le (by omega)) ⟨⟨ds, rangeKs 0 nP, bs⟩, .mk (.tail _ (.tail _ (.tail _ (.head _)))) (.tail _ (.tail _ (.tail _ (.tail _ (.head _)))))
        ⟨P0, pvs, pc, rfl, .tail _ (.head _), ints_all2 hpI⟩ ⟨D0, ys, ys.length, rfl, .tail _ (.tail _ (.head _)), A2N.imp fun _ _ => SlotAt.mono fun p hp => hle _ (G.1 _ hp)⟩ (.head _) (A3.imp fun _ _ => BlockAt.mono hle), hdl, hds, ?_, ?_, hbs⟩
      · exact rangeKs_3 (by omega)
      · show bs.length ≤ 3
        omega
end
end
section
section

theorem pos_of_ne {fs : List Int} (h : decide (fs = []) = false) : 0 < fs.length := by
  cases fs with
  | nil => exact absurd rfl (of_decide_eq_false h)
  | cons _ _ => exact Nat.succ_pos _
def MostOk (fs : List Int) (k : Int) : Prop := (fs = [] → k = -1) ∧ (fs ≠ [] → k ∈ fs ∧ ∀ a ∈ fs, a ≤ k)
theorem MostOk.snoc {fs : List Int} {k x : Int} (h : MostOk fs k) (hx : 0 ≤ x) (hf : ∀ a ∈ fs, 0 ≤ a) : MostOk (fs ++ [x]) (max (max k 0) x) := by
  refine ⟨fun e => absurd e (by simp), fun _ => ?_⟩
  by_cases e : fs = []
  · have := h.1 e
    subst e
    have e2 : max (max k 0) x = x := by omega
    rw [e2]; simp
  · obtain ⟨h1, h2⟩ := h.2 e
    have := hf k h1
    by_cases hkx : k ≤ x
    · have e2 : max (max k 0) x = x := by omega
      rw [e2]
      refine ⟨by simp, fun a ha => ?_⟩
      rcases List.mem_append.mp ha with ha | ha
      · exact Int.le_trans (h2 a ha) hkx
      · rw [List.mem_singleton.mp ha]; exact Int.le_refl _
    · have e2 : max (max k 0) x = k := by omega
      rw [e2]
      refine ⟨List.mem_append_left _ h1, fun a ha => ?_⟩
      rcases List.mem_append.mp ha with ha | ha
      · exact h2 a ha
      · rw [List.mem_singleton.mp ha]; omega
theorem MostOk.snocX {fs : List Int} {k y : Int} (h : MostOk fs k) (hf : ∀ a ∈ fs, 0 ≤ a) : MostOk (fs ++ [if y > 0 then y else 0]) (max (max k 0) y) := by
  have e : max (max k 0) y = max (max k 0) (if y > 0 then y else 0) := by split <;> omega
  rw [e]
  exact h.snoc (by split <;> omega) hf
theorem ge_snoc {fs : List Int} {y : Int} (h : ∀ a ∈ fs, 0 ≤ a) : ∀ a ∈ fs ++ [if y > 0 then y else 0], 0 ≤ a := by
  intro a ha
  rcases List.mem_append.mp ha with ha | ha
  · exact h a ha
  · rw [List.mem_singleton.mp ha]; split <;> omega
theorem ints_of : ∀ {vs : List Value} {ns : List Int}, All2 IntAt vs ns → IntsAre vs ns
  | _, _, .nil => .nil
  | _, _, .cons (.mk) h => .cons _ _ (ints_of h)
inductive MostJ (fl : Addr) (news : Led) (k : Int) (b : Nat) : Led → Prop
  | mk {fvs : List Value} {fs : List Int} {e : Nat} (A : All2 IntAt fvs fs) (h : MostOk fs k) (h0 : ∀ a ∈ fs, 0 ≤ a) (hb : fvs.length ≤ b) : MostJ fl news k b ((fl, listOf (List.toArray fvs) e) :: news)
theorem most_words (w : World) (v : Value) (d : FuncD) : ReadSpec w 200 5 (fun news => FuncAt news v d ∧ FuncOk d) [v] (fun r => ∃ t, r = .int (funcW d) t) := by
  w_top off
  k_with_none
  k_with "m_rst" => first | (with_reducible apply Rst.nil) | (with_reducible apply Rst.cons; k_extra "m_rst")
  k_with "m_pick" => first | (with_reducible apply Pick.head; k_extra "m_rst") | (with_reducible apply Pick.tail; k_extra "m_pick")
  k_with "m_draw" => (
  (case N => k_asm); (case P => k_extra "m_pick"); (case B => k_asm); (case F => k_asm); (case X => k_asm);
  (case off => ((try simp only [List.nil_append, List.cons_append]); k_all)); (case T => k_asm); (case k => first | exact rfl | assumption); (case W => assumption); (case I => assumption);
  (case b => omega); (case d => ktr_room); (case u => ktr_units))
  k_with "m_al" => first | assumption | exact And.right (by assumption) | exact And.right (And.right (by assumption)) | exact And.right (And.right (And.right (by assumption))) | exact And.right (And.right (And.right (And.right (by assumption)))) | exact And.right (And.right (And.right (And.right (And.right (by assumption))))) | exact And.right (And.right (And.right (And.right (And.right (And.right (by assumption)))))) | exact And.right (And.right (And.right (And.right (And.right (And.right (And.right (by assumption))))))) | exact And.right (And.right (And.right (And.right (And.right (And.right (And.right (And.right (by assumption)))))))) | exact And.right (And.right (And.right (And.right (And.right (And.right (And.right (And.right (And.right (by assumption))))))))) | exact And.right (And.right (And.right (And.right (And.right (And.right (And.right (And.right (And.right (And.right (by assumption)))))))))) | exact And.right (And.right (And.right (And.right (And.right (And.right (And.right (And.right (And.right (And.right (And.right (by assumption))))))))))) | exact And.right (And.right (And.right (And.right (And.right (And.right (And.right (And.right (And.right (And.right (And.right (And.right (by assumption)))))))))))) | exact And.right (And.right (And.right (And.right (And.right (And.right (And.right (And.right (And.right (And.right (And.right (And.right (And.right (by assumption))))))))))))) | exact And.right (And.right (And.right (And.right (And.right (And.right (And.right (And.right (And.right (And.right (And.right (And.right (And.right (And.right (by assumption)))))))))))))) | exact And.right (And.right (And.right (And.right (And.right (And.right (And.right (And.right (And.right (And.right (And.right (And.right (And.right (And.right (And.right (by assumption))))))))))))))) | exact And.right (And.right (And.right (And.right (And.right (And.right (And.right (And.right (And.right (And.right (And.right (And.right (And.right (And.right (And.right (And.right (by assumption)))))))))))))))) | exact And.right (And.right (And.right (And.right (And.right (And.right (And.right (And.right (And.right (And.right (And.right (And.right (And.right (And.right (And.right (And.right (And.right (by assumption))))))))))))))))) | exact And.right (And.right (And.right (And.right (And.right (And.right (And.right (And.right (And.right (And.right (And.right (And.right (And.right (And.right (And.right (And.right (And.right (And.right (by assumption)))))))))))))))))) | exact AllLt.up (by assumption) (by k_extra "m_al")
  k_with "m_cells" => first | k_extra "m_cellsG" | (simp only [List.map_append, List.map_cons, List.cons_append, List.nil_append, List.mem_cons, List.map_nil, List.mem_append]; intro x hx; first | assumption | (rcases hx with hx | hx <;> simp only [hx, true_or, or_true]))
  k_with "m_grow" => first | (with_reducible exact Grow.refl) | (with_reducible refine Grow.add ?_ ?_; k_extra "m_grow"; exact cellsNe (by first | k_extra "m_lt" | omega) (by k_extra "m_al")) | (with_reducible refine Grow.transR (by assumption) ?_ ?_; k_extra "m_cells"; k_extra "m_grow")
  k_with "m_cell1" => (simp only [List.map_append, List.map_cons, List.cons_append, List.nil_append, List.mem_cons, List.map_nil, List.mem_append, true_or, or_true]; done)
  k_with "m_mem" => first | exact List.Mem.head _ | (refine List.Mem.tail _ ?_; k_extra "m_mem")
  k_with "m_sub" => (intro p hp; simp only [List.mem_cons, hp, or_true])
  k_with "m_ctx" => ((case N => k_asm); (case B => k_asm); (case F => k_asm); (case X => k_asm); (case T => k_asm); (case k => first | exact rfl | assumption); (case d => ktr_room); (case u => ktr_units))
  k_with "m_subR" => (intro p hp; simp only [List.mem_cons, List.mem_append, hp, or_true])
  k_with "m_memT" => first | assumption | exact List.Mem.head _ | (refine List.Mem.tail _ ?_; k_extra "m_memT")
  k_with "m_mq" => first | (with_reducible exact List.mem_cons_self) | ((with_reducible refine List.mem_cons_of_mem _ ?_); k_extra "m_mq") | ((with_reducible refine List.mem_append_left _ ?_); k_extra "m_mq") | ((with_reducible refine List.mem_append_right _ ?_); k_extra "m_mq") | (with_reducible assumption)
  k_with "m_sq" => first | (with_reducible exact fa_self) | ((with_reducible refine fa_tail ?_); k_extra "m_sq") | ((with_reducible refine fa_left ?_); k_extra "m_sq") | ((with_reducible refine fa_right ?_); k_extra "m_sq") | (with_reducible assumption)
  k_with "m_perm" => ((repeat' (with_reducible first | refine fa_cons ?_ ?_ | refine fa_app ?_ ?_ | exact fa_nil)); all_goals (first | k_extra "m_mq" | k_extra "m_sq"))
  k_with "m_cellsG" => ((try simp only [List.cons_append, List.nil_append, List.map_cons, List.map_append]); k_extra "m_perm")
  k_with "exec Assign cons ListComp" => walk_at "exec Assign"
  k_with "m_lt" => first | (with_reducible exact Nat.lt_succ_self _) | ((with_reducible refine Nat.lt_succ_of_lt ?_); k_extra "m_lt") | (with_reducible assumption) | (with_reducible exact And.left (by assumption)) | (with_reducible exact And.left (And.right (by assumption))) | (with_reducible exact And.left (And.right (And.right (by assumption)))) | (with_reducible exact And.left (And.right (And.right (And.right (by assumption))))) | (with_reducible exact And.left (And.right (And.right (And.right (And.right (by assumption)))))) | (with_reducible exact And.left (And.right (And.right (And.right (And.right (And.right (by assumption))))))) | (with_reducible exact And.left (And.right (And.right (And.right (And.right (And.right (And.right (by assumption)))))))) | (with_reducible exact And.left (And.right (And.right (And.right (And.right (And.right (And.right (And.right (by assumption))))))))) | (with_reducible exact And.left (And.right (And.right (And.right (And.right (And.right (And.right (And.right (And.right (by assumption)))))))))) | (with_reducible exact And.right (by assumption)) | (with_reducible exact And.right (And.right (by assumption))) | (with_reducible exact And.right (And.right (And.right (by assumption)))) | (with_reducible exact And.right (And.right (And.right (And.right (by assumption))))) | ((with_reducible refine Nat.lt_trans ?_ (by assumption)); k_extra "m_lt")
  k_with "m_ne" => first | (with_reducible assumption) | (with_reducible exact Ne.symm (by assumption)) | (with_reducible exact Ne.symm (And.left (by assumption))) | (with_reducible exact Ne.symm (And.left (And.right (by assumption)))) | (with_reducible exact And.left (by assumption)) | (with_reducible exact And.left (And.right (by assumption))) | exact Nat.ne_of_gt (by k_extra "m_lt") | exact Nat.ne_of_lt (by k_extra "m_lt") | omega
  k_with "m_rm" => first | (with_reducible exact room1 (by assumption) (Nat.le_of_ble_eq_true rfl)) | (with_reducible exact room2 (by assumption) (Nat.le_of_ble_eq_true rfl)) | (with_reducible exact room3 (by assumption) (Nat.le_of_ble_eq_true rfl)) | ((simp only [depth_under_make, depth_under_kw, depth_in1, depth_deeper, depth_caller, units_in1, units_deeper, Around.mark_units, units_caller]); (try dsimp only [ktrTop]); first | (with_reducible exact room1 (by assumption) (Nat.le_of_ble_eq_true rfl)) | (with_reducible exact room2 (by assumption) (Nat.le_of_ble_eq_true rfl)) | (with_reducible exact room3 (by assumption) (Nat.le_of_ble_eq_true rfl)))
  k_with "call builtin:len" => (k_here; (with_reducible show wpAny _ _ (call (Value.builtin "len") [Value.ref _]) _ _ _); k_dflt (refine' m_len (by k_asm) (by k_mem) (by omega) ?_; intro _ _))
  k_with "compareOp Eq str str" => (refine m_eqstr_ne (by assumption) ?_)
  k_with "eval Name" => (k_here; k_dflt (refine' ld (by k_asm) (by assumption) ?_; k_whole))
  k_with "exec For Name Attribute cons nil" => (k_here; walk_at "m_kF"; with_unfolding_all refine For_invTF (by first | with_reducible assumption | assumption) ?_ (by intro _; rfl))
  k_with "pyIter ref" => ((with_reducible show wpAny _ _ (pyIter (Value.ref _)) (fun it s₂ => LoopAtT _ _ _ _ _ _ _ _ _ it s₂) _ _); refine hold ?_)
  k_with "compareOp NotEq ref ref" => (k_here; (with_reducible show wpAny _ _ (compareOp CmpOp.NotEq (Value.ref _) (Value.ref _)) _ _ _); k_dflt (refine' ke_ne_ints (by exact isList_led (by k_asm) (by k_mem)) (by exact isList_led (by k_asm) (by k_mem)) (by first | assumption | exact .nil) (by first | assumption | exact .nil) (by ktr_units) ?_))
  (have kf : PySem.Challenge.rw_nm0006_01.Holds → Mine.hd.heap_39 w.params = Mine.hd.heap_39 w.params := by k_fill; intro; rfl); clear kf
  intro dp un gd cn cs a ccd cl outer A₀ base h₀ L m mean mg mb news s Q E B F X N T hk hpre hd hu hret
  obtain ⟨hf, hok⟩ := hpre
  obtain @⟨x, dx, bl, _, _, _, _, _, _, _, _, _, _, _, _, _, _, _, vn, vp, vs, _, bvs, bn, hx, hdx, hp, hs, hbl, hb2⟩ := hf
  refine wpAny_call ?_
  k_dflt ktr_enter
  k_steps
  rename_i g' L' h1' FG B1 X1 T1 tk0 fl hA lfl h2' F1 N1
  unfold Hold
  have offf : Off fl news := fun p hp => Nat.ne_of_lt (lfl p hp)
  refine iter_list (l := bl) (vs := bvs) (n₀ := bn) (fun i m₁ nw => MostJ fl news ((d.blocks.take i).foldl blockW (-1)) (3 * i) nw ∧ m₁ (Str.ofString "found") = some (.ref fl)) (by rfl) F1 N1 ?hm ?hj ?turn ?done
  case hm => rintro i m₁ nw ⟨⟨_, _, _, _⟩, _⟩; exact .tail _ hbl
  case hj => exact ⟨.mk (fs := []) .nil ⟨fun _ => rfl, fun h => absurd rfl h⟩ nofun (Nat.le_refl _), rfl⟩
  case turn =>
    rintro i v m₁ nw s₁ I oI hv ⟨hJ, hfnd⟩ off F2 N2
    clear F1 N1
    obtain ⟨b, hb, hB⟩ := hb2.get hv
    rw [foldl_take _ _ hb]
    generalize (d.blocks.take i).foldl blockW (-1) = k at hJ ⊢
    obtain @⟨x2, dx2, sl, _, _, _, _, _, _, vn2, ve2, _, svs, sn, hx2, hdx2, hsl, hs2, hfin⟩ := hB
    have hbo := hok.2.2.2.2 b (List.mem_of_getElem? hb)
    have hi3 : i < 3 := by have h1 := (List.getElem?_eq_some_iff.mp hb).1; have h2 := hok.2.2.2.1; omega
    cases hJ with | @mk fvs fs e A h h0 hbd
    k_steps
    rename_i h3' F3 N3
    unfold Hold
    clear F2 N2
    refine iter_list (l := sl) (vs := svs) (n₀ := sn) (fun j m₁ nw => (∃ nw', nw = (I, oI) :: nw' ∧ MostJ fl news ((b.steps.take j).foldl stepW k) (3 * i + j) nw') ∧ m₁ (Str.ofString "found") = some (.ref fl)) (by rfl) F3 N3 ?hm2 ?hj2 ?turn2 ?done2
    case hm2 => rintro i m₁ nw ⟨⟨nw', rfl, ⟨_, _, _, _⟩⟩, _⟩; exact .tail _ (.tail _ hsl)
    case hj2 => exact ⟨⟨_, rfl, .mk A h h0 hbd⟩, hfnd⟩
    case turn2 =>
      rintro j v m₂ nw s₂ I2 oI2 hv ⟨⟨nw', rfl, hJ⟩, hfnd⟩ off2 F4 N4
      clear F3 N3 A h h0 hbd
      obtain ⟨st, hst, hS⟩ := hs2.get hv
      rw [foldl_take _ _ hst]
      generalize (b.steps.take j).foldl stepW k = k2 at hJ ⊢
      obtain @⟨x3, dx3, al, _, _, _, _, _, _, _, _, _, _, _, _, _, _, _, vm, _, avs, an, hx3, hdx3, hal, ha2, -⟩ := hS
      have hlen : avs.length = st.args.length := ha2.length
      have hargs : st.args.length ≤ 13 := (hbo.2.1 st (List.mem_of_getElem? hst)).1.2.2.2.1
      have hj3 : j < 3 := by have h1 := (List.getElem?_eq_some_iff.mp hst).1; have h2 := hbo.1; omega
      cases hJ with | @mk fvs fs e A h h0 hbd
      have offI : Off I2 news := (off_cons.mp (off_cons.mp off2).2).2
      have hne : (@Ne Nat I fl) ∧ (@Ne Nat I2 fl) := ⟨Ne.symm (off _ (.head _)), Ne.symm (off2 _ (.tail _ (.head _)))⟩
      obtain ⟨hne1, hne2⟩ := hne
      have hbd2 : fvs.length ≤ 9 := by omega
      rcases kind_cases st.kind with hk1 | hk1 | ⟨hk1, hk2, hk3⟩
      · have hW : stepW k2 st = max (max k2 0) ((avs.length : Int) - 8) := by unfold stepW; rw [hk1, hlen]
        rw [hk1] at hdx3
        rw [hW]
        k_steps
        have ez : ((avs.length : Int) - 8) = (avs.length : Int) - 8 - (if (Kind.call.str == Str.ofString "callreg") = true then 1 else 0) := by rw [if_neg (by decide)]; omega
        rw [ez]
        exact TurnEnd.intro (by assumption) (by assumption) (by k_extra "m_perm") (off_cons.mpr ⟨off2 _ (.head _), off_cons.mpr ⟨hne2.symm, offI⟩⟩) ⟨⟨_, rfl, .mk (A.snoc .mk) (h.snocX h0) (ge_snoc h0) (by rw [List.length_append]; exact Nat.add_le_add_right hbd 1)⟩, by exact hfnd⟩
      · have hW : stepW k2 st = max (max k2 0) ((avs.length : Int) - 1 - 8) := by unfold stepW; rw [hk1, hlen]
        rw [hk1] at hdx3
        rw [hW]
        k_steps
        have ez : ((avs.length : Int) - 1 - 8) = (avs.length : Int) - 8 - (if (Kind.callreg.str == Str.ofString "callreg") = true then 1 else 0) := by rw [if_pos (by decide)]; omega
        rw [ez]
        exact TurnEnd.intro (by assumption) (by assumption) (by k_extra "m_perm") (off_cons.mpr ⟨off2 _ (.head _), off_cons.mpr ⟨hne2.symm, offI⟩⟩) ⟨⟨_, rfl, .mk (A.snoc .mk) (h.snocX h0) (ge_snoc h0) (by rw [List.length_append]; exact Nat.add_le_add_right hbd 1)⟩, by exact hfnd⟩
      · have hW : stepW k2 st = k2 := hk3 _ _ rfl
        generalize st.kind.str = ops at hk1 hk2 hdx3
        rw [hW]
        k_steps
        · rename_i a9 _ _ _ _ _ _ _ _
          simp only [List.any_cons, List.any_nil, Bool.or_false, Bool.or_eq_true, beq_iff_eq] at a9
          rcases a9 with h9 | h9
          · exact (hk1.mp h9.symm).elim
          · exact (hk2.mp h9.symm).elim
        · exact TurnEnd.intro (by assumption) (by assumption) (by k_extra "m_perm") off2 ⟨⟨_, rfl, .mk A h h0 (by omega)⟩, by exact hfnd⟩
    case done2 =>
      rintro m₂ nw h tk ⟨⟨nw', rfl, hJ⟩, hfnd2⟩ F4 N4
      rw [take_all2 hs2] at hJ
      clear F3 N3 A h0 hbd
      cases hJ with | @mk fvs fs e A h h0 hbd
      have hsl3 : svs.length ≤ 3 := by rw [hs2.length]; exact hbo.1
      k_steps
      refine TurnEnd.intro (nw := (fl, listOf (List.toArray fvs) e) :: news) (by assumption) (by assumption) (fun p hp => hp) (off_cons.mpr ⟨(off_cons.mp off).1, (off_cons.mp off).2⟩) ⟨.mk A h h0 (by omega), by exact hfnd2⟩
  case done =>
    rintro m₂ nw h tk ⟨hJ, hfnd2⟩ F4 N4
    rw [take_all2 hb2] at hJ
    have hbl3 : bvs.length ≤ 3 := by rw [hb2.length]; exact hok.2.2.2.1
    cases hJ with | @mk fvs fs e A h h0 hbd
    have hI := ints_of A
    clear F1 N1
    have hfl : fvs.length ≤ 9 := by omega
    k_steps
    k_steps
    · rename_i a9 kF kN Tc kX
      refine hret _ _ _ kF (News.sub' kN fun p hp => .tail _ (.tail _ hp)) ?_
      rw [show funcW d = -1 from h.1 (of_decide_eq_true a9)]
      exact ⟨_, rfl⟩
    · refine' kso_max ?k1 ?k2 ?k3 ?k4 ?k5 ?k6 ?_
      case k1 => k_asm
      case k2 => k_asm
      case k3 => exact isList_led (by k_asm) (by k_mem)
      case k4 => assumption
      case k5 => exact pos_of_ne (by assumption)
      case k6 => rfl
      intro h9 M9 t9 tk9 F9 N9 hm9 hM9
      k_steps
      rename_i kF kN Tc kX
      refine hret _ _ _ kF (News.sub' kN fun p hp => .tail _ (.tail _ hp)) ?_
      have hne : fs ≠ [] := by intro e; rw [e] at hm9; nomatch hm9
      obtain ⟨q1, q2⟩ := h.2 hne
      rw [show funcW d = _ from Int.le_antisymm (hM9 _ q1) (q2 _ hm9)]
      exact ⟨_, rfl⟩
end
end
section
section
def keepL : Int → List Int → List (Int × Int)
  | _, [] => []
  | z, r :: l => (r, z) :: keepL (z + 4) l
theorem keep_fold : ∀ (l : List Int) (z : Int) (acc : List (Int × Int)), l.foldl keepStep (z, acc) = (z + 4 * l.length, acc ++ keepL z l)
  | [], z, acc => by simp [keepL]
  | r :: l, z, acc => by
    show l.foldl keepStep (z + 4, acc ++ [(r, z)]) = _
    rw [keep_fold l]
    simp only [keepL, List.length_cons, List.append_assoc, List.cons_append, List.nil_append, Prod.mk.injEq, and_true]
    omega
theorem keptOf_eq (d : FuncD) (saved : List Int) : keptOf d saved = (at0 d + 4 * (regsOf d saved).length, keepL (at0 d) (regsOf d saved)) := by
  unfold keptOf; rw [keep_fold]; simp
theorem keepL_fst : ∀ (l : List Int) (z : Int), (keepL z l).map (·.1) = l
  | [], _ => rfl
  | r :: l, z => by simp [keepL, keepL_fst l]
def alOf (a : Int) : Int := if a > 1 then a else 1
def slotL : Int → List (Int × Int) → List (Int × Int × Int)
  | _, [] => []
  | z, p :: l => (roundI z (alOf p.2), p.1, p.2) :: slotL (roundI z (alOf p.2) + p.1) l
def spanEnd (_ : Int) (p : Int × Int × Int) : Int := p.1 + p.2.1
theorem slot_fold : ∀ (l : List (Int × Int)) (z : Int) (acc : List Int), l.foldl slotStep (z, acc) = ((slotL z l).foldl spanEnd z, acc ++ (slotL z l).map (·.1))
  | [], z, acc => by simp [slotL]
  | p :: l, z, acc => by
    show l.foldl slotStep (roundI z (alOf p.2) + p.1, acc ++ [roundI z (alOf p.2)]) = _
    rw [slot_fold l]
    simp only [slotL, List.foldl_cons, List.map_cons, List.append_assoc, List.cons_append, List.nil_append, spanEnd]
def spansK (d : FuncD) (saved : List Int) : List (Int × Int × Int) := (keepL (at0 d) (regsOf d saved)).map fun p => (p.2, 4, 4)
def spansS (d : FuncD) (saved : List Int) : List (Int × Int × Int) := slotL (at0 d + 4 * (regsOf d saved).length) d.slots
theorem slotsOf_eq (d : FuncD) (saved : List Int) : slotsOf d saved = ((spansS d saved).foldl spanEnd (at0 d + 4 * (regsOf d saved).length), (spansS d saved).map (·.1)) := by
  unfold slotsOf spansS; rw [slot_fold, keptOf_eq]; simp
theorem slotL_get : ∀ {l : List (Int × Int)} {z : Int} {i : Nat} {p : Int × Int}, l[i]? = some p → ∃ a, (slotL z l)[i]? = some (a, p.1, p.2)
  | [], _, i, p, h => by simp at h
  | q :: l, z, 0, p, h => by simp at h; subst h; exact ⟨_, rfl⟩
  | q :: l, z, i + 1, p, h => slotL_get (l := l) (i := i) (by simpa using h)
theorem slotL_len : ∀ (l : List (Int × Int)) (z : Int), (slotL z l).length = l.length
  | [], _ => rfl
  | _ :: l, z => by simp [slotL, slotL_len l]
/-- each span stands at the least place behind the last one that its alignment lets -/
def Good : Int → List (Int × Int × Int) → Prop
  | _, [] => True
  | e, p :: l => (p.1.fmod p.2.2 = 0 ∧ 0 ≤ p.1 - e ∧ p.1 - e < p.2.2) ∧ Good (p.1 + p.2.1) l
theorem good_keep : ∀ (l : List Int) (z : Int) (r : List (Int × Int × Int)), z.fmod 4 = 0 → Good (z + 4 * l.length) r → Good z ((keepL z l).map (fun p => (p.2, 4, 4)) ++ r)
  | [], z, r, _, h => by simpa [keepL] using h
  | x :: l, z, r, hz, h => by
    refine ⟨⟨hz, by show 0 ≤ z - z; omega, by show z - z < 4; omega⟩, ?_⟩
    refine good_keep l (z + 4) r ?_ ?_
    · rw [Int.add_fmod_right]; exact hz
    · have e : z + 4 + 4 * (l.length : Int) = z + 4 * ((x :: l).length : Nat) := by rw [List.length_cons]; omega
      rw [e]; exact h
theorem good_slot : ∀ (l : List (Int × Int)) (z : Int), (∀ s ∈ l, 0 ≤ s.1 ∧ s.1 ≤ 20 ∧ (s.2 = 1 ∨ s.2 = 2 ∨ s.2 = 4 ∨ s.2 = 8)) → Good z (slotL z l)
  | [], _, _ => trivial
  | p :: l, z, h => by
    obtain ⟨h0, _, h1⟩ := h p (.head _)
    have ha : alOf p.2 = p.2 := by unfold alOf; split <;> omega
    have hr := roundI_spec (n := z) (a := p.2) (by omega)
    refine ⟨?_, ?_⟩
    · show (roundI z (alOf p.2)).fmod p.2 = 0 ∧ 0 ≤ roundI z (alOf p.2) - z ∧ roundI z (alOf p.2) - z < p.2
      rw [ha]
      exact ⟨hr.2.2, by omega, by omega⟩
    · exact good_slot l _ fun s hs => h s (.tail _ hs)
theorem good_at : ∀ {l : List (Int × Int × Int)} {e : Int} {i : Nat} {p : Int × Int × Int}, Good e l → l[i]? = some p → p.1.fmod p.2.2 = 0 ∧ 0 ≤ p.1 - (l.take i).foldl spanEnd e ∧ p.1 - (l.take i).foldl spanEnd e < p.2.2
  | [], _, i, p, _, h => by simp at h
  | q :: l, e, 0, p, g, h => by simp at h; subst h; exact g.1
  | q :: l, e, i + 1, p, g, h => by
    have := good_at (l := l) (i := i) g.2 (by simpa using h)
    simpa [spanEnd] using this
theorem at0_eq (d : FuncD) : at0 d = 4 * max 0 (funcW d) := by unfold at0; split <;> omega
theorem good_all {d : FuncD} {saved : List Int} (h : FuncOk d) : Good (at0 d) (spansK d saved ++ spansS d saved) := by
  refine good_keep _ _ _ ?_ (good_slot _ _ h.2.1)
  unfold at0; exact Int.mul_fmod_right ..
theorem end_keep : ∀ (l : List Int) (z : Int), ((keepL z l).map (fun p => (p.2, (4 : Int), (4 : Int)))).foldl spanEnd z = z + 4 * l.length
  | [], z => by simp [keepL]
  | x :: l, z => by
    show ((keepL (z + 4) l).map (fun p => (p.2, (4 : Int), (4 : Int)))).foldl spanEnd (z + 4) = _
    rw [end_keep l, List.length_cons]; omega
theorem end_all (d : FuncD) (saved : List Int) : (spansK d saved ++ spansS d saved).foldl spanEnd (at0 d) = (slotsOf d saved).1 := by
  rw [List.foldl_append, slotsOf_eq]; unfold spansK; rw [end_keep]
end
end
section
section
theorem incoming (w : World) (v : Value) (d : FrameD) (k : Int) (t : Tok) : ReadSpec w 49 2 (fun news => FrameAt news v d) [v, .int k t] (fun r => ∃ t, r = .int (d.size + 4 * (k - 8)) t) := by
  w_top off
  k_with_none
  k_with "m_rst" => first | (with_reducible apply Rst.nil) | (with_reducible apply Rst.cons; k_extra "m_rst")
  k_with "m_pick" => first | (with_reducible apply Pick.head; k_extra "m_rst") | (with_reducible apply Pick.tail; k_extra "m_pick")
  k_with "m_draw" => (
  (case N => k_asm); (case P => k_extra "m_pick"); (case B => k_asm); (case F => k_asm); (case X => k_asm);
  (case off => ((try simp only [List.nil_append, List.cons_append]); k_all)); (case T => k_asm); (case k => first | exact rfl | assumption); (case W => assumption); (case I => assumption);
  (case b => omega); (case d => ktr_room); (case u => ktr_units))
  k_with "m_al" => first | assumption | exact And.right (by assumption) | exact And.right (And.right (by assumption)) | exact And.right (And.right (And.right (by assumption))) | exact And.right (And.right (And.right (And.right (by assumption)))) | exact And.right (And.right (And.right (And.right (And.right (by assumption))))) | exact And.right (And.right (And.right (And.right (And.right (And.right (by assumption)))))) | exact And.right (And.right (And.right (And.right (And.right (And.right (And.right (by assumption))))))) | exact And.right (And.right (And.right (And.right (And.right (And.right (And.right (And.right (by assumption)))))))) | exact And.right (And.right (And.right (And.right (And.right (And.right (And.right (And.right (And.right (by assumption))))))))) | exact And.right (And.right (And.right (And.right (And.right (And.right (And.right (And.right (And.right (And.right (by assumption)))))))))) | exact And.right (And.right (And.right (And.right (And.right (And.right (And.right (And.right (And.right (And.right (And.right (by assumption))))))))))) | exact And.right (And.right (And.right (And.right (And.right (And.right (And.right (And.right (And.right (And.right (And.right (And.right (by assumption)))))))))))) | exact And.right (And.right (And.right (And.right (And.right (And.right (And.right (And.right (And.right (And.right (And.right (And.right (And.right (by assumption))))))))))))) | exact And.right (And.right (And.right (And.right (And.right (And.right (And.right (And.right (And.right (And.right (And.right (And.right (And.right (And.right (by assumption)))))))))))))) | exact And.right (And.right (And.right (And.right (And.right (And.right (And.right (And.right (And.right (And.right (And.right (And.right (And.right (And.right (And.right (by assumption))))))))))))))) | exact And.right (And.right (And.right (And.right (And.right (And.right (And.right (And.right (And.right (And.right (And.right (And.right (And.right (And.right (And.right (And.right (by assumption)))))))))))))))) | exact And.right (And.right (And.right (And.right (And.right (And.right (And.right (And.right (And.right (And.right (And.right (And.right (And.right (And.right (And.right (And.right (And.right (by assumption))))))))))))))))) | exact And.right (And.right (And.right (And.right (And.right (And.right (And.right (And.right (And.right (And.right (And.right (And.right (And.right (And.right (And.right (And.right (And.right (And.right (by assumption)))))))))))))))))) | exact AllLt.up (by assumption) (by k_extra "m_al")
  k_with "m_cells" => first | k_extra "m_cellsG" | (simp only [List.map_append, List.map_cons, List.cons_append, List.nil_append, List.mem_cons, List.map_nil, List.mem_append]; intro x hx; first | assumption | (rcases hx with hx | hx <;> simp only [hx, true_or, or_true]))
  k_with "m_grow" => first | (with_reducible exact Grow.refl) | (with_reducible refine Grow.add ?_ ?_; k_extra "m_grow"; exact cellsNe (by first | k_extra "m_lt" | omega) (by k_extra "m_al")) | (with_reducible refine Grow.transR (by assumption) ?_ ?_; k_extra "m_cells"; k_extra "m_grow")
  k_with "m_cell1" => (simp only [List.map_append, List.map_cons, List.cons_append, List.nil_append, List.mem_cons, List.map_nil, List.mem_append, true_or, or_true]; done)
  k_with "m_mem" => first | exact List.Mem.head _ | (refine List.Mem.tail _ ?_; k_extra "m_mem")
  k_with "m_sub" => (intro p hp; simp only [List.mem_cons, hp, or_true])
  k_with "m_ctx" => ((case N => k_asm); (case B => k_asm); (case F => k_asm); (case X => k_asm); (case T => k_asm); (case k => first | exact rfl | assumption); (case d => ktr_room); (case u => ktr_units))
  k_with "m_subR" => (intro p hp; simp only [List.mem_cons, List.mem_append, hp, or_true])
  k_with "m_memT" => first | assumption | exact List.Mem.head _ | (refine List.Mem.tail _ ?_; k_extra "m_memT")
  k_with "m_mq" => first | (with_reducible exact List.mem_cons_self) | ((with_reducible refine List.mem_cons_of_mem _ ?_); k_extra "m_mq") | ((with_reducible refine List.mem_append_left _ ?_); k_extra "m_mq") | ((with_reducible refine List.mem_append_right _ ?_); k_extra "m_mq") | (with_reducible assumption)
  k_with "m_sq" => first | (with_reducible exact fa_self) | ((with_reducible refine fa_tail ?_); k_extra "m_sq") | ((with_reducible refine fa_left ?_); k_extra "m_sq") | ((with_reducible refine fa_right ?_); k_extra "m_sq") | (with_reducible assumption)
  k_with "m_perm" => ((repeat' (with_reducible first | refine fa_cons ?_ ?_ | refine fa_app ?_ ?_ | exact fa_nil)); all_goals (first | k_extra "m_mq" | k_extra "m_sq"))
  k_with "m_cellsG" => ((try simp only [List.cons_append, List.nil_append, List.map_cons, List.map_append]); k_extra "m_perm")
  k_with "exec Assign cons ListComp" => walk_at "exec Assign"
  k_with "m_lt" => first | (with_reducible exact Nat.lt_succ_self _) | ((with_reducible refine Nat.lt_succ_of_lt ?_); k_extra "m_lt") | (with_reducible assumption) | (with_reducible exact And.left (by assumption)) | (with_reducible exact And.left (And.right (by assumption))) | (with_reducible exact And.left (And.right (And.right (by assumption)))) | (with_reducible exact And.left (And.right (And.right (And.right (by assumption))))) | (with_reducible exact And.left (And.right (And.right (And.right (And.right (by assumption)))))) | (with_reducible exact And.left (And.right (And.right (And.right (And.right (And.right (by assumption))))))) | (with_reducible exact And.left (And.right (And.right (And.right (And.right (And.right (And.right (by assumption)))))))) | (with_reducible exact And.left (And.right (And.right (And.right (And.right (And.right (And.right (And.right (by assumption))))))))) | (with_reducible exact And.left (And.right (And.right (And.right (And.right (And.right (And.right (And.right (And.right (by assumption)))))))))) | (with_reducible exact And.right (by assumption)) | (with_reducible exact And.right (And.right (by assumption))) | (with_reducible exact And.right (And.right (And.right (by assumption)))) | (with_reducible exact And.right (And.right (And.right (And.right (by assumption))))) | ((with_reducible refine Nat.lt_trans ?_ (by assumption)); k_extra "m_lt")
  k_with "m_ne" => first | (with_reducible assumption) | (with_reducible exact Ne.symm (by assumption)) | (with_reducible exact Ne.symm (And.left (by assumption))) | (with_reducible exact Ne.symm (And.left (And.right (by assumption)))) | (with_reducible exact And.left (by assumption)) | (with_reducible exact And.left (And.right (by assumption))) | exact Nat.ne_of_gt (by k_extra "m_lt") | exact Nat.ne_of_lt (by k_extra "m_lt") | omega
  k_with "m_rm" => first | (with_reducible exact room1 (by assumption) (Nat.le_of_ble_eq_true rfl)) | (with_reducible exact room2 (by assumption) (Nat.le_of_ble_eq_true rfl)) | (with_reducible exact room3 (by assumption) (Nat.le_of_ble_eq_true rfl)) | ((simp only [depth_under_make, depth_under_kw, depth_in1, depth_deeper, depth_caller, units_in1, units_deeper, Around.mark_units, units_caller]); (try dsimp only [ktrTop]); first | (with_reducible exact room1 (by assumption) (Nat.le_of_ble_eq_true rfl)) | (with_reducible exact room2 (by assumption) (Nat.le_of_ble_eq_true rfl)) | (with_reducible exact room3 (by assumption) (Nat.le_of_ble_eq_true rfl)))
  (have kf : PySem.Challenge.rw_nm0006_01.Holds → Mine.hd.heap_39 w.params = Mine.hd.heap_39 w.params := by k_fill; intro; rfl); clear kf
  intro dp un gd cn cs a' ccd cl outer A₀ base h₀ L m mean mg mb news s Q E B F X N T hk hpre hd hu hret
  obtain @⟨x, dx, _, _, _, _, _, _, _, _, _, _, hx, hdx, -, -⟩ := hpre
  refine wpAny_call ?_
  k_dflt ktr_enter
  k_steps
  exact hret _ _ _ (by assumption) (by assumption) ⟨_, rfl⟩
theorem FrameAt.up {rest rest' : Led} {v : Value} {d : FrameD} (h : FrameAt rest v d) (hs : Sub rest rest') : FrameAt rest' v d := h.mono hs
/-- paths that meet in one value -/
def MeetV (h₀ : Heap) (L : Addr) (m : Str → Option Value) (R : Value → Led → Prop) (s : Shared) (v : Value) (s' : Shared) : Prop := ∃ h' tk nw, s' = { s with heap := h', toks := tk } ∧ Fr h₀ L h' m ∧ News h₀ L h' nw ∧ R v nw
theorem MeetV.intro {h₀ h' : Heap} {L : Addr} {m : Str → Option Value} {R : Value → Led → Prop} {s : Shared} {tk : Nat} {nw all : Led} {v : Value} (F : Fr h₀ L h' m) (N : News h₀ L h' all) (hs : ∀ p ∈ nw, p ∈ all) (hr : R v nw) : MeetV h₀ L m R s v { s with heap := h', toks := tk } :=
  ⟨h', tk, nw, rfl, F, News.sub' N hs, hr⟩
theorem join_val {prog : Program} {w : World} {A : Around} {E : Value → Shared → Prop} {s : Shared} {h₀ : Heap} {L : Addr} {m : Str → Option Value} {news : Led} {t : Sem Value} {Q : Value → Shared → Prop} (_F : Fr h₀ L s.heap m) (_N : News h₀ L s.heap news) (R : Value → Led → Prop)
    (h : wpAny (model prog w) A t (MeetV h₀ L m R s) E s)
    (hq : ∀ v h' tk nw, Fr h₀ L h' m → News h₀ L h' nw → R v nw → Q v { s with heap := h', toks := tk }) : wpAny (model prog w) A t Q E s :=
  wpAny_mono h (fun v s' x => by
    obtain ⟨h', tk, nw, rfl, F, N, hr⟩ := x
    exact hq _ _ _ _ F N hr) fun _ _ e => e
local macro_rules | `(tactic| walk_at "call ref cons nil") => `(tactic| (k_here; (with_reducible show wpAny _ _ (call (Value.ref 28) [Value.ref _]) _ _ _); k_dflt (refine' ReadSpec.use (outgoing _ _ _) ?B ?F ?X ?N ?T ?k ?pre ?d ?u ?_; k_extra "m_ctx"; (case pre => exact ⟨FuncAt.up (by assumption) (by unfold Sub; k_extra "m_sq"), by assumption⟩); intro r9 h9 tk9 F9 N9 ho9; (try k_sweep); (obtain ⟨t9, e9⟩ := ho9; subst e9))))
local macro_rules | `(tactic| walk_at "call ref cons nil") => `(tactic| (k_here; (with_reducible show wpAny _ _ (call (Value.ref 200) [Value.ref _]) _ _ _); k_dflt (refine' ReadSpec.use (most_words _ _ _) ?B ?F ?X ?N ?T ?k ?pre ?d ?u ?_; k_extra "m_ctx"; (case pre => exact ⟨FuncAt.up (by assumption) (by unfold Sub; k_extra "m_sq"), by assumption⟩); intro r9 h9 tk9 F9 N9 ho9; (try k_sweep); (obtain ⟨t9, e9⟩ := ho9; subst e9))))
local macro_rules | `(tactic| walk_at "call ref cons nil") => `(tactic| (k_here; (with_reducible show wpAny _ _ (call (Value.ref 63) [_, _]) _ _ _); k_dflt (refine' MakeSpec.use (frame_of _ _ _ _ _) ?B ?F ?X ?N ?P ?T ?k ?pre ?d ?u ?_; k_extra "m_ctx"; (case P => first | exact Rst.cons (Rst.nil (ex := [])) | exact Rst.cons (Rst.cons (Rst.nil (ex := []))) | exact Rst.cons (Rst.cons (Rst.cons (Rst.nil (ex := []))))); (case pre => exact ⟨by assumption, by assumption, by assumption, by assumption⟩); intro r9 rest9 h9 tk9 F9 N9 G9 ho9; (try simp only [List.nil_append, List.cons_append] at N9); (try k_sweep); (have hf9 := FuncAt.mono G9.1 (by assumption)); (have hi9 := IntsAt.mono G9.1 (by assumption)))))
local macro_rules | `(tactic| walk_at "call ref cons nil") => `(tactic| (k_here; (with_reducible show wpAny _ _ (call (Value.ref 49) [Value.ref _, Value.int _ _]) _ _ _); k_dflt (refine' ReadSpec.use (incoming _ _ _ _ _) ?B ?F ?X ?N ?T ?k ?pre ?d ?u ?_; k_extra "m_ctx"; (case pre => exact FrameAt.up (by assumption) (by unfold Sub; k_extra "m_sq")); intro r9 h9 tk9 F9 N9 ho9; (try k_sweep); (obtain ⟨t9, e9⟩ := ho9; subst e9))))
def wordsL (sz : Int) (n : Nat) : List Int := (List.range n).map fun (j : Nat) => sz + 4 * (8 + (j : Int) - 8)
theorem wordsL_succ (sz : Int) (n : Nat) : wordsL sz (n + 1) = wordsL sz n ++ [sz + 4 * (8 + (n : Int) - 8)] := by unfold wordsL; rw [List.range_succ, List.map_append]; rfl
local macro_rules | `(tactic| walk_at "binaryOp Add ref ref") => `(tactic| (k_here; (with_reducible show wpAny _ _ (binaryOp _ (Value.ref _) (Value.ref _)) _ _ _); k_dflt (refine' kmk_add_ints ?F ?N ?a ?b ?i ?j ?_ ?z; (case F => k_asm); (case N => k_asm); (case a => exact isList_led (by k_asm) (by k_mem)); (case b => exact isList_led (by k_asm) (by k_mem)); (case i => assumption); (case j => assumption); (case z => (rw [sizeLine_eq]; omega))); intro D' ws' h' F' N' l1 hI'; (try k_lt l1); (try k_sweep)))
inductive TripAt (rest : Led) : Value → Int × Int × Int → Prop
  | mk {a : Addr} {x y z : Int} {t u v : Tok} : (a, tup [.int x t, .int y u, .int z v]) ∈ rest → TripAt rest (.ref a) (x, y, z)
theorem TripAt.mono {rest rest' : Led} (hs : ∀ p ∈ rest, p ∈ rest') {v : Value} {d : Int × Int × Int} (h : TripAt rest v d) : TripAt rest' v d := by
  cases h with | mk a => exact .mk (hs _ a)
/-- the spans laid so far -/
inductive SpJ (SP : Addr) (nw : Led) (l : List (Int × Int × Int)) : Led → Prop
  | mk {ys : List Value} {e : Nat} {q : Led} (sub : ∀ p ∈ nw, p ∈ q) (off : Off SP q) (A : All2 (TripAt q) ys l) : SpJ SP nw l ((SP, listOf (List.toArray ys) e) :: q)
theorem take_snoc {α : Type} {l : List α} {i : Nat} {a : α} (h : l[i]? = some a) : l.take (i + 1) = l.take i ++ [a] := by rw [List.take_add_one, h]; rfl
theorem frame_right (w : World) (v v2 : Value) (d : FuncD) (saved : List Int) : ReadSpec w 205 16 (fun news => FuncAt news v d ∧ FuncOk d ∧ IntsAt news v2 saved ∧ saved.length ≤ 5) [v, v2] (fun r => r = .bool true) := by
  w_top off
  k_with_none
  k_with "m_rst" => first | (with_reducible apply Rst.nil) | (with_reducible apply Rst.cons; k_extra "m_rst")
  k_with "m_pick" => first | (with_reducible apply Pick.head; k_extra "m_rst") | (with_reducible apply Pick.tail; k_extra "m_pick")
  k_with "m_draw" => (
  (case N => k_asm); (case P => k_extra "m_pick"); (case B => k_asm); (case F => k_asm); (case X => k_asm);
  (case off => ((try simp only [List.nil_append, List.cons_append]); k_all)); (case T => k_asm); (case k => first | exact rfl | assumption); (case W => assumption); (case I => assumption);
  (case b => omega); (case d => ktr_room); (case u => ktr_units))
  k_with "m_al" => first | assumption | exact And.right (by assumption) | exact And.right (And.right (by assumption)) | exact And.right (And.right (And.right (by assumption))) | exact And.right (And.right (And.right (And.right (by assumption)))) | exact And.right (And.right (And.right (And.right (And.right (by assumption))))) | exact And.right (And.right (And.right (And.right (And.right (And.right (by assumption)))))) | exact And.right (And.right (And.right (And.right (And.right (And.right (And.right (by assumption))))))) | exact And.right (And.right (And.right (And.right (And.right (And.right (And.right (And.right (by assumption)))))))) | exact And.right (And.right (And.right (And.right (And.right (And.right (And.right (And.right (And.right (by assumption))))))))) | exact And.right (And.right (And.right (And.right (And.right (And.right (And.right (And.right (And.right (And.right (by assumption)))))))))) | exact And.right (And.right (And.right (And.right (And.right (And.right (And.right (And.right (And.right (And.right (And.right (by assumption))))))))))) | exact And.right (And.right (And.right (And.right (And.right (And.right (And.right (And.right (And.right (And.right (And.right (And.right (by assumption)))))))))))) | exact And.right (And.right (And.right (And.right (And.right (And.right (And.right (And.right (And.right (And.right (And.right (And.right (And.right (by assumption))))))))))))) | exact And.right (And.right (And.right (And.right (And.right (And.right (And.right (And.right (And.right (And.right (And.right (And.right (And.right (And.right (by assumption)))))))))))))) | exact And.right (And.right (And.right (And.right (And.right (And.right (And.right (And.right (And.right (And.right (And.right (And.right (And.right (And.right (And.right (by assumption))))))))))))))) | exact And.right (And.right (And.right (And.right (And.right (And.right (And.right (And.right (And.right (And.right (And.right (And.right (And.right (And.right (And.right (And.right (by assumption)))))))))))))))) | exact And.right (And.right (And.right (And.right (And.right (And.right (And.right (And.right (And.right (And.right (And.right (And.right (And.right (And.right (And.right (And.right (And.right (by assumption))))))))))))))))) | exact And.right (And.right (And.right (And.right (And.right (And.right (And.right (And.right (And.right (And.right (And.right (And.right (And.right (And.right (And.right (And.right (And.right (And.right (by assumption)))))))))))))))))) | exact AllLt.up (by assumption) (by k_extra "m_al")
  k_with "m_cells" => first | k_extra "m_cellsG" | (simp only [List.map_append, List.map_cons, List.cons_append, List.nil_append, List.mem_cons, List.map_nil, List.mem_append]; intro x hx; first | assumption | (rcases hx with hx | hx <;> simp only [hx, true_or, or_true]))
  k_with "m_grow" => first | (with_reducible exact Grow.refl) | (with_reducible refine Grow.add ?_ ?_; k_extra "m_grow"; exact cellsNe (by first | k_extra "m_lt" | omega) (by k_extra "m_al")) | (with_reducible refine Grow.transR (by assumption) ?_ ?_; k_extra "m_cells"; k_extra "m_grow")
  k_with "m_cell1" => (simp only [List.map_append, List.map_cons, List.cons_append, List.nil_append, List.mem_cons, List.map_nil, List.mem_append, true_or, or_true]; done)
  k_with "m_mem" => first | exact List.Mem.head _ | (refine List.Mem.tail _ ?_; k_extra "m_mem")
  k_with "m_sub" => (intro p hp; simp only [List.mem_cons, hp, or_true])
  k_with "m_ctx" => ((case N => k_asm); (case B => k_asm); (case F => k_asm); (case X => k_asm); (case T => k_asm); (case k => first | exact rfl | assumption); (case d => ktr_room); (case u => ktr_units))
  k_with "m_subR" => (intro p hp; simp only [List.mem_cons, List.mem_append, hp, or_true])
  k_with "m_memT" => first | assumption | exact List.Mem.head _ | (refine List.Mem.tail _ ?_; k_extra "m_memT")
  k_with "m_mq" => first | (with_reducible exact List.mem_cons_self) | ((with_reducible refine List.mem_cons_of_mem _ ?_); k_extra "m_mq") | ((with_reducible refine List.mem_append_left _ ?_); k_extra "m_mq") | ((with_reducible refine List.mem_append_right _ ?_); k_extra "m_mq") | (with_reducible assumption)
  k_with "m_sq" => first | (with_reducible exact fa_self) | ((with_reducible refine fa_tail ?_); k_extra "m_sq") | ((with_reducible refine fa_left ?_); k_extra "m_sq") | ((with_reducible refine fa_right ?_); k_extra "m_sq") | (with_reducible assumption)
  k_with "m_perm" => ((repeat' (with_reducible first | refine fa_cons ?_ ?_ | refine fa_app ?_ ?_ | exact fa_nil)); all_goals (first | k_extra "m_mq" | k_extra "m_sq"))
  k_with "m_cellsG" => ((try simp only [List.cons_append, List.nil_append, List.map_cons, List.map_append]); k_extra "m_perm")
  k_with "exec Assign cons ListComp" => walk_at "exec Assign"
  k_with "m_lt" => first | (with_reducible exact Nat.lt_succ_self _) | ((with_reducible refine Nat.lt_succ_of_lt ?_); k_extra "m_lt") | (with_reducible assumption) | (with_reducible exact And.left (by assumption)) | (with_reducible exact And.left (And.right (by assumption))) | (with_reducible exact And.left (And.right (And.right (by assumption)))) | (with_reducible exact And.left (And.right (And.right (And.right (by assumption))))) | (with_reducible exact And.left (And.right (And.right (And.right (And.right (by assumption)))))) | (with_reducible exact And.left (And.right (And.right (And.right (And.right (And.right (by assumption))))))) | (with_reducible exact And.left (And.right (And.right (And.right (And.right (And.right (And.right (by assumption)))))))) | (with_reducible exact And.left (And.right (And.right (And.right (And.right (And.right (And.right (And.right (by assumption))))))))) | (with_reducible exact And.left (And.right (And.right (And.right (And.right (And.right (And.right (And.right (And.right (by assumption)))))))))) | (with_reducible exact And.right (by assumption)) | (with_reducible exact And.right (And.right (by assumption))) | (with_reducible exact And.right (And.right (And.right (by assumption)))) | (with_reducible exact And.right (And.right (And.right (And.right (by assumption))))) | ((with_reducible refine Nat.lt_trans ?_ (by assumption)); k_extra "m_lt")
  k_with "m_ne" => first | (with_reducible assumption) | (with_reducible exact Ne.symm (by assumption)) | (with_reducible exact Ne.symm (And.left (by assumption))) | (with_reducible exact Ne.symm (And.left (And.right (by assumption)))) | (with_reducible exact And.left (by assumption)) | (with_reducible exact And.left (And.right (by assumption))) | exact Nat.ne_of_gt (by k_extra "m_lt") | exact Nat.ne_of_lt (by k_extra "m_lt") | omega
  k_with "m_rm" => first | (with_reducible exact room1 (by assumption) (Nat.le_of_ble_eq_true rfl)) | (with_reducible exact room2 (by assumption) (Nat.le_of_ble_eq_true rfl)) | (with_reducible exact room3 (by assumption) (Nat.le_of_ble_eq_true rfl)) | ((simp only [depth_under_make, depth_under_kw, depth_in1, depth_deeper, depth_caller, units_in1, units_deeper, Around.mark_units, units_caller]); (try dsimp only [ktrTop]); first | (with_reducible exact room1 (by assumption) (Nat.le_of_ble_eq_true rfl)) | (with_reducible exact room2 (by assumption) (Nat.le_of_ble_eq_true rfl)) | (with_reducible exact room3 (by assumption) (Nat.le_of_ble_eq_true rfl)))
  k_with "eval IfExp" => ((fail_if_success (rename Mark => mk9)); refine hold ?_)
  k_with "CompSrc" => refine hold ?_
  k_with "compareOp NotEq ref ref" => (k_here; (with_reducible show wpAny _ _ (compareOp CmpOp.NotEq (Value.ref _) (Value.ref _)) _ _ _); k_dflt (refine' ne_same (by exact isList_led (by k_asm) (by k_mem)) (by exact isList_led (by k_asm) (by k_mem)) (by first | assumption | exact .nil) (by first | assumption | exact .nil) (by ktr_units) ?_))
  k_with "compareOp Eq ref ref" => (k_here; (with_reducible show wpAny _ _ (compareOp CmpOp.Eq (Value.ref _) (Value.ref _)) _ _ _); k_dflt (refine' eq_same (by exact isList_led (by k_asm) (by k_mem)) (by exact isList_led (by k_asm) (by k_mem)) (by assumption) (by assumption) (by ktr_units) ?_))
  k_with "call builtin:len" => (k_here; (with_reducible show wpAny _ _ (call (Value.builtin "len") [Value.ref _]) _ _ _); k_dflt (refine' m_len (by k_asm) (by k_mem) (by omega) ?_; intro _ _))
  k_with "exec For Name Call cons nil" => (k_here; with_unfolding_all refine For_invTF (by assumption) ?_ (by intro _; rfl))
  k_with "exec For Tuple Name cons nil" => (k_here; with_unfolding_all refine For_invTF (by assumption) ?_ (by intro _; rfl))
  k_with "pyIter ref" => ((with_reducible show wpAny _ _ (pyIter (Value.ref _)) (fun it s₂ => LoopAtT _ _ _ _ _ _ _ _ _ it s₂) _ _); refine hold ?_)
  k_with "subscriptTail" => (k_here; (with_reducible show wpAny _ _ (subscriptTail _ _ (Value.ref _) (Value.int (Nat.cast _) _)) _ _ _); k_dflt (refine' m_itemAt (by k_asm) (by k_mem) (by assumption) (by omega) ?_))
  (have kf : PySem.Challenge.rw_nm0006_01.Holds → Mine.hd.heap_39 w.params = Mine.hd.heap_39 w.params := by k_fill; intro; rfl); clear kf
  intro dp un gd cn cs a ccd cl outer A₀ base h₀ L m mean mg mb news s Q E B F X N T hk hpre hd hu hret
  obtain ⟨hf, hok, hsv, hs5⟩ := hpre
  have e0 : news = [] ++ news := rfl
  have hv : ∃ fx, v = .ref fx := by cases hf; exact ⟨_, rfl⟩
  obtain ⟨fx, rfl⟩ := hv
  have hv : ∃ fx, v2 = .ref fx := by obtain ⟨al, _, _, rfl, _⟩ := hsv; exact ⟨_, rfl⟩
  obtain ⟨sx, rfl⟩ := hv
  refine wpAny_call ?_
  k_dflt (walk_at "m_enterC")
  k_steps
  rename_i g' L1 h1 tk1 FG B1 X1 T1 lnw oc dc h2 tk2 tm h3 said rest1 h4 tk4 F1 N1 G1 hfr hf1 hi1
  unfold Hold
  have hw := funcW_le hok
  have offL : Off (L1 + 1) rest1 := G1.2 _ (.head _) fun p hp => Nat.ne_of_lt (Nat.lt_succ_of_lt (lnw p hp))
  have hfr0 := hfr
  obtain @⟨x, dx, fh1, fh2, fh3, ft1, ft2, ft3, ft4, vk, vs, _, hx, hdx, hkp, hsl⟩ := hfr
  obtain ⟨kl, kvs, kn, rfl, hkl, hkv⟩ := hkp
  obtain ⟨sl, svs, sn, rfl, hsll, hsv2⟩ := hsl
  refine join_val F1 N1 (fun v nw => ∃ al avs n, v = .ref al ∧ nw = (al, listOf (List.toArray avs) n) :: (L1 + 1, oc) :: rest1 ∧ All2 IntAt avs (if 0 ≤ funcW d then [1] else []) ∧ (@LT.lt Nat _ (L1 + 1) al)) ?j1 ?j2
  case j1 =>
    have hmk : Mark := ⟨⟩
    k_steps
    · rw [if_pos (by omega)]
      exact MeetV.intro (by assumption) (by assumption) (fun p hp => hp) ⟨_, [_], _, rfl, rfl, .cons .mk .nil, by omega⟩
    · rw [if_neg (by omega)]
      exact MeetV.intro (by assumption) (by assumption) (fun p hp => hp) ⟨_, [], _, rfl, rfl, .nil, by omega⟩
  case j2 =>
    rintro v h' tk nw F2 N2 ⟨al, avs, n, rfl, rfl, hav, hal1⟩
    clear F1 N1
    obtain ⟨sal, sxs, sxn, e1, hsal, hsx⟩ := hi1
    cases e1
    obtain ⟨rg, hrg⟩ : ∃ rg : List Int, rg = if 0 ≤ funcW d then [1] else [] := ⟨_, rfl⟩
    rw [← hrg] at hav
    have hrg1 : rg.length ≤ 1 := by rw [hrg]; split <;> simp
    have hreg : regsOf d saved = saved ++ rg := by unfold regsOf; rw [hrg]
    have hIa := ints_of hav
    have hIs := ints_of hsx
    k_steps
    · exact absurd rfl (by assumption : funcW d ≠ funcW d)
    unfold Hold
    rename_i tkq1 tkq2 nl ws hq1 hIw lnl T1' hq2 lT1 hq3 hq4 oc2 doc hq5 h9 tk9 F9 N9 t9 a9
    have hkept : (frameOf d saved).kept = keepL (at0 d) (regsOf d saved) := by show (keptOf d saved).2 = _; rw [keptOf_eq]
    have hslots : (frameOf d saved).slots = (spansS d saved).map (·.1) := by show (slotsOf d saved).2 = _; rw [slotsOf_eq]
    have hsize : (frameOf d saved).size = roundI ((spansK d saved ++ spansS d saved).foldl spanEnd (at0 d)) 16 := by rw [end_all]; rfl
    rw [hkept] at hkv
    rw [hslots] at hsv2
    have hkl6 : kvs.length ≤ 6 := by rw [hkv.length, ← List.length_map (f := (·.1)), keepL_fst, hreg, List.length_append]; omega
    have hsl4 : svs.length = d.slots.length := by rw [hsv2.length, List.length_map]; exact slotL_len _ _
    have hd4 := hok.1
    obtain ⟨R, hR⟩ : ∃ R : Led, R = (T1', tup [.ref x, .ref nl]) :: (nl, listOf (List.toArray ws) 0) :: (al, listOf (List.toArray avs) n) :: (L1 + 1, oc2) :: rest1 := ⟨_, rfl⟩
    have NR : News g' L1 h9 R := by rw [hR]; exact N9
    have hRs : ∀ p, p ∈ rest1 → p ∈ R := by rw [hR]; k_extra "m_sq"
    have mnl : (nl, listOf (List.toArray ws) 0) ∈ R := by rw [hR]; k_extra "m_mq"
    have mc : (L1 + 1, oc2) ∈ R := by rw [hR]; k_extra "m_mq"
    have mx := hRs _ hx
    have mdx := hRs _ hdx
    have mkl := hRs _ hkl
    have msl := hRs _ hsll
    have hkR := hkv.imp fun _ _ => SlotAt.mono hRs
    have hfR := hf1.mono hRs
    have hfrR := hfr0.mono hRs
    clear hfr0
    have hnR : ∀ p, p ∈ news → p ∈ R := fun p hp => hRs _ (G1.1 p hp)
    obtain @⟨_, fdx, bl, _, _, _, _, _, _, _, _, _, _, _, _, _, _, _, vn, vp, _, _, bvs, bn, hfx, hfdx, hfp, hfs, hfbl, hfb2⟩ := hfR
    obtain ⟨dsl, dvs, dsn, rfl, hdsl, hdvs⟩ := hfs
    have hdvl : dvs.length = d.slots.length := hdvs.length
    clear hR N9 hkv hx hdx hkl hsll hf1 hRs hsal hav hrg1 lnl lT1 hal1 hIa hIs
    refine comp_list (ax := kl) (vs := kvs) (k := kn) (fun i ys nw => R = nw ∧ All2 IntAt ys (((keepL (at0 d) (regsOf d saved)).take i).map (·.1))) (by rfl) F9 NR mkl (by omega) (by rintro i ys nw ⟨rfl, _⟩; exact mkl) ⟨rfl, .nil⟩ ?turn1 ?fin1
    case turn1 =>
      rintro i v ys nw I oI C oC D m₂ h tk E' hv ⟨rfl, A⟩ hC hx F N off
      obtain ⟨p, hp, hP⟩ := hkR.get hv
      obtain @⟨pa, r0, y0, t, u, hm⟩ := hP
      clear NR F9
      k_steps
      refine REnd.mk F N (fun p hp => hp) off ⟨rfl, ?_⟩
      rw [take_snoc hp, List.map_append]
      exact A.snoc .mk
    case fin1 =>
      rintro g ys nw ⟨rfl, A⟩
      rw [take_all2 hkR, keepL_fst, hreg] at A
      have hIy := ints_of A
      clear NR F9
      k_steps
      · rename_i a8 _ _ _ _
        exact absurd (by omega) a8
      unfold Hold
      rename_i K1 hk1 tkk1 FK0 oK1 tA tkA tB tkB a8 hk2 tkk4 FK NK
      have mkl2 : (kl, listOf (List.toArray kvs) kn) ∈ (K1, LCg.lst ys) :: R := .tail _ mkl
      refine comp_list (ax := kl) (vs := kvs) (k := kn) (fun i zs nw => (∀ p ∈ R, p ∈ nw) ∧ All2 (TripAt nw) zs (((keepL (at0 d) (regsOf d saved)).take i).map (fun p => (p.2, 4, 4)))) (by rfl) FK NK mkl2 (by omega) (fun i ys nw h => h.1 _ mkl) ⟨fun p hp => .tail _ hp, .nil⟩ ?turn2 ?fin2
      case turn2 =>
        rintro i v zs nw I oI C oC D m₂ h tk E' hv ⟨hsb, AZ⟩ hC hx F N off
        obtain ⟨p, hp, hP⟩ := hkR.get hv
        obtain @⟨pa, r0, y0, t, u, hm⟩ := hP
        have hm2 := hsb _ hm
        clear NK FK
        k_steps
        rename_i TT hTT FT NT lTT
        refine REnd.mk (nw := (TT, tup [.int y0 u, .int 4 _, .int 4 _]) :: nw) FT NT (by k_extra "m_perm") ⟨⟨by omega, by omega, by omega⟩, off⟩ ⟨fun p hp => .tail _ (hsb p hp), ?_⟩
        rw [take_snoc hp, List.map_append]
        exact (AZ.imp fun _ _ => TripAt.mono fun p hp => .tail _ hp).snoc (.mk (.head _))
      case fin2 =>
        rintro g zs nw ⟨hsb, AZ⟩
        rw [take_all2 hkR] at AZ
        have mx2 := hsb _ mx
        have mdx2 := hsb _ mdx
        have mc2 := hsb _ mc
        have msl2 := hsb _ msl
        have mfx2 := hsb _ hfx
        have mfdx2 := hsb _ hfdx
        have mdsl2 := hsb _ hdsl
        clear NK FK
        k_steps
        unfold Hold
        rename_i gq SP hs1 tks1 oSP T2 hs2 lT2 hs3 hs4 hs5' FL0 NL0 tl tl' hs6 tks6 ra rb rc hrL FL NL hkL
        have offSP : Off SP nw := off1_off oSP
        have hend : (4 * if funcW d > 0 then funcW d else 0) = at0 d := by unfold at0; split <;> split <;> omega
        have NL2 : News g' L1 hs6 ((SP, listOf (List.toArray zs) zs.length) :: nw) := fun p hp => NL p (.tail _ hp)
        have hzl : (spansK d saved).length ≤ 6 := by unfold spansK; rw [List.length_map, ← hkR.length]; exact hkl6
        refine iter_range (n := dvs.length) (fun i m₁ nw' => SpJ SP nw (spansK d saved ++ (spansS d saved).take i) nw' ∧ m₁ (Str.ofString "spans") = some (.ref SP) ∧ m₁ (Str.ofString "drawn") = some (.ref fx) ∧ (∃ t, m₁ (Str.ofString "end") = some (.int (at0 d) t))) (by rfl) hrL (by omega) (fun _ _ => rfl) FL NL2 ?hj3 ?turn3 ?done3
        case hj3 => exact ⟨.mk (fun _ h => h) offSP (by rw [List.take_zero, List.append_nil]; exact AZ), rfl, rfl, ⟨_, by rw [← hend]; rfl⟩⟩
        case turn3 =>
          rintro i t m₁ nw' s₁ I oI hi ⟨hJ, hm1, hm2, hm3⟩ off F3 N3
          cases hJ with | @mk ys3 e3 q sub offq A3
          obtain ⟨pr, hpr⟩ : ∃ p, d.slots[i]? = some p := ⟨_, List.getElem?_eq_getElem (by omega)⟩
          obtain ⟨ai, hai⟩ := slotL_get (z := at0 d + 4 * (regsOf d saved).length) hpr
          have hsp : (spansS d saved)[i]? = some (ai, pr.1, pr.2) := hai
          have hA3l := A3.length
          rw [List.length_append, List.length_take] at hA3l
          have hy10 : ys3.length ≤ 10 := by omega
          have hneI : @Ne Nat I SP := Ne.symm (off _ (.head _))
          clear NL NL2 FL hrL NL0 FL0
          obtain ⟨tE, hm3⟩ := hm3
          obtain ⟨m₀, rfl⟩ := map3 hm1 hm2 hm3
          obtain ⟨sv, hsv⟩ : ∃ v, svs[i]? = some v := ⟨_, List.getElem?_eq_getElem (by omega)⟩
          obtain ⟨dv, hdv⟩ : ∃ v, dvs[i]? = some v := ⟨_, List.getElem?_eq_getElem (by omega)⟩
          obtain ⟨b1, hb1, hB1⟩ := hsv2.get hsv
          rw [List.getElem?_map, hsp] at hb1
          cases hb1
          obtain ⟨ts⟩ := hB1
          obtain ⟨b2, hb2, hB2⟩ := hdvs.get hdv
          rw [hpr] at hb2
          cases hb2
          obtain @⟨pa, px, py, tx, ty, hpm⟩ := hB2
          have hpm2 := sub _ (hsb _ hpm)
          have q1 := sub _ mx2
          have q2 := sub _ mdx2
          have q3 := sub _ mc2
          have q4 := sub _ msl2
          have q5 := sub _ mfx2
          have q6 := sub _ mfdx2
          have q7 := sub _ mdsl2
          clear hm1 hm2 hm3
          k_steps
          rename_i tsv hq1 tkq TT hq2 lTT hq3 FT NT
          have hTs : (@LT.lt Nat _ I TT) ∧ (@LT.lt Nat _ SP TT) := ⟨lTT.1, lTT.2.1⟩
          refine TurnEnd.intro (nw := (SP, listOf (List.toArray (ys3 ++ [.ref TT])) (e3 + 1)) :: (TT, tup [.int ai tsv, .int px tx, .int py ty]) :: q) FT NT (by k_extra "m_perm") (off_cons.mpr ⟨(off_cons.mp off).1, off_cons.mpr ⟨Nat.ne_of_gt hTs.1, (off_cons.mp off).2⟩⟩)
            ⟨.mk (fun p hp => .tail _ (sub p hp)) (off_cons.mpr ⟨Nat.ne_of_gt hTs.2, offq⟩) ?_, rfl, rfl, ⟨_, rfl⟩⟩
          rw [take_snoc hsp, ← List.append_assoc]
          exact (A3.imp fun _ _ => TripAt.mono fun p hp => .tail _ hp).snoc (.mk (.head _))
        case done3 =>
          rintro m₁ nw' h tk ⟨hJ, hm1, hm2, hm3⟩ F3 N3
          obtain ⟨tE, hm3⟩ := hm3
          obtain ⟨m₀, rfl⟩ := map2 hm1 hm3
          cases hJ with | @mk ys3 e3 q sub offq A3
          rw [List.take_of_length_le (by rw [hdvl]; exact Nat.le_of_eq (slotL_len _ _))] at A3
          have hA3l := A3.length
          have hy10 : ys3.length ≤ 10 := by
            rw [hA3l, List.length_append]
            have : (spansS d saved).length = d.slots.length := slotL_len _ _
            omega
          have q1 := sub _ mx2
          have q2 := sub _ mdx2
          have q3 := sub _ mc2
          clear NL NL2 FL hrL NL0 FL0
          k_steps
          unfold Hold
          have hgood := good_all (saved := saved) hok
          refine iter_list (l := SP) (vs := ys3) (n₀ := e3) (fun i m₁ nw'' => (SP, listOf (List.toArray ys3) e3) :: q = nw'' ∧ ∃ t, m₁ (Str.ofString "end") = some (.int (((spansK d saved ++ spansS d saved).take i).foldl spanEnd (at0 d)) t)) (by rfl) F3 N3 ?hm4 ?hj4 ?turn4 ?done4
          case hm4 => rintro i m₁ nw ⟨rfl, _⟩; exact .head _
          case hj4 => exact ⟨rfl, _, rfl⟩
          case turn4 =>
            rintro i v m₁ nw'' s₁ I oI hv ⟨rfl, tE2, hmE⟩ off F4 N4
            obtain ⟨p3, hp3, hP3⟩ := A3.get hv
            rw [foldl_take _ _ hp3]
            have hg3 := good_at hgood hp3
            obtain @⟨pa, x3, y3, z3, u1, u2, u3, hpm3⟩ := hP3
            generalize ((spansK d saved ++ spansS d saved).take i).foldl spanEnd (at0 d) = eE at hg3 hmE ⊢
            obtain ⟨g1, g2, g3⟩ := hg3
            dsimp only at g1 g2 g3
            obtain ⟨m₂, rfl⟩ := map1 hmE
            clear F3 N3 hmE
            k_steps
            · exact absurd g1 (by assumption)
            · exact TurnEnd.intro (by assumption) (by assumption) (fun p hp => hp) off ⟨rfl, _, rfl⟩
          case done4 =>
            rintro m₁ nw'' h tk ⟨rfl, tE2, hmE⟩ F4 N4
            rw [take_all2 A3] at hmE
            have hr16 := roundI_spec (n := (spansK d saved ++ spansS d saved).foldl spanEnd (at0 d)) (a := 16) (by omega)
            rw [← hsize] at hr16
            clear hsize
            generalize (spansK d saved ++ spansS d saved).foldl spanEnd (at0 d) = eE at hmE hr16
            obtain ⟨r1, r2, r3⟩ := hr16
            have hfrQ := (hfrR.mono hsb).mono sub
            obtain ⟨m₂, rfl⟩ := map1 hmE
            clear F3 N3 hmE
            k_steps
            · exact absurd r3 (by assumption)
            unfold Hold
            rename_i hqa tka rta rtb rtc hrA FA NA hkA
            refine comp_range (n := 6) (fun i ys nw'' => (SP, listOf (List.toArray ys3) e3) :: q = nw'' ∧ All2 IntAt ys (wordsL (frameOf d saved).size i)) (by rfl) FA NA hrA (by decide) (by decide) (by omega) ⟨rfl, .nil⟩ ?turn5 ?fin5
            case turn5 =>
              rintro i t ys nw'' I oI C oC D m₃ h tk E' hi ⟨rfl, A⟩ hC hx F N off
              clear NA FA hrA
              k_steps
              refine REnd.mk (J := fun y nw' => (SP, listOf (List.toArray ys3) e3) :: q = nw' ∧ All2 IntAt (ys ++ [y]) (wordsL (frameOf d saved).size (i + 1))) (nw := (SP, listOf (List.toArray ys3) e3) :: q) (by assumption) (by assumption) (fun p hp => hp) off ⟨rfl, ?_⟩
              rw [wordsL_succ]
              exact A.snoc .mk
            case fin5 =>
              rintro g ys5 nw'' ⟨rfl, A5⟩
              have hI5 := ints_of A5
              clear NA FA hrA
              k_steps
              unfold Hold
              rename_i D5 hD5 tkD5 FD5 ND5 oD5 hqb tkb rua rub ruc hrB FB NB hkB
              refine comp_range (n := 6) (fun i ys nw'' => (D5, LCg.lst ys5) :: (SP, listOf (List.toArray ys3) e3) :: q = nw'' ∧ All2 IntAt ys (wordsL (frameOf d saved).size i)) (by rfl) FB NB hrB (by decide) (by decide) (by omega) ⟨rfl, .nil⟩ ?turn6 ?fin6
              case turn6 =>
                rintro i t ys nw'' I oI C oC D m₃ h tk E' hi ⟨rfl, A⟩ hC hx F N off
                clear NB FB hrB
                k_steps
                refine REnd.mk (J := fun y nw' => (D5, LCg.lst ys5) :: (SP, listOf (List.toArray ys3) e3) :: q = nw' ∧ All2 IntAt (ys ++ [y]) (wordsL (frameOf d saved).size (i + 1))) (nw := (D5, LCg.lst ys5) :: (SP, listOf (List.toArray ys3) e3) :: q) (by assumption) (by assumption) (fun p hp => hp) off ⟨rfl, ?_⟩
                rw [wordsL_succ]
                exact A.snoc .mk
              case fin6 =>
                rintro g ys6 nw'' ⟨rfl, A6⟩
                have hI6 := ints_of A6
                clear NB FB hrB
                k_steps
                rename_i kF kN Tc kX
                exact hret _ _ _ kF (News.sub' kN fun p hp => .tail _ (.tail _ (.tail _ (sub _ (hsb _ (hnR p hp)))))) rfl
end
end
local macro_rules | `(tactic| walk_at "setItem ref int") => `(tactic| (k_here; (with_reducible show wpAny _ _ (setItem (Value.ref _) (Value.int _ _) (Value.int _ _)) _ _ _); k_dflt (refine' kdf_setItem ?F ?N ?U ?d ?f ?z ?_; (case F => k_asm); (case N => k_asm); (case U => k_updF); (case d => assumption); (case f => assumption); (case z => omega)); intro h' o' kvs' F' N' hd' hf'; (try dsimp only at N')))
section
section
abbrev usageDict (h1 h2 h3 : Int) (t1 t2 t3 : Tok) (a b c : Value) : Obj :=
  dictOf [⟨h1, .str (Str.ofString "uses") t1, a⟩, ⟨h2, .str (Str.ofString "addressed") t2, b⟩, ⟨h3, .str (Str.ofString "slots") t3, c⟩] 3
inductive DictAt (w : World) (o : Obj) (c : List (Int × Int)) : Prop
  | mk {kvs : List (Int × Value)} (hd : o.IsDictOf (PySem.intKind PySem.Challenge.rw_nm0006_01.row.prog w) kvs) (hf : PyProof.V.FlatPairs PyData.int kvs (kdfD c)) : DictAt w o c
def bump (c : List (Int × Int)) (i : Int) : List (Int × Int) := kdfPut c i (kdfLook c i 0 + 1)
theorem bump_len (c : List (Int × Int)) (i : Int) : (bump c i).length ≤ c.length + 1 := kdfPut_len _ _ _
def useOpd (c : List (Int × Int)) : Opd → List (Int × Int)
  | .r i => bump c i
  | .k _ => c
def usesOf (c : List (Int × Int)) (d : StepD) : List (Int × Int) := d.args.foldl useOpd c
def accOpd (c : List (Int × Int)) : List Opd → List (Int × Int)
  | .r i :: _ => bump c i
  | _ => c
def addrOf (c : List (Int × Int)) (d : StepD) : List (Int × Int) := match d.kind with
  | .load => accOpd c d.args
  | .store => accOpd c d.args
  | _ => c
theorem tab_of {prog : Program} {w : World} {h₀ : Heap} {L d : Addr} {s : Shared} {news : Led} {o : Obj} {kvs : List (Int × Value)} {c : List (Int × Int)} (N : News h₀ L s.heap news) (hm : (d, o) ∈ news) (lo : (d == sysModules) = false) (hd : o.IsDictOf (PySem.intKind prog w) kvs) (hf : PyProof.V.FlatPairs PyData.int kvs (kdfD c)) :
    IntTab prog w s.heap d (kdfD c) := ⟨lo, kvs, kda_dict N hm hd, hf⟩
theorem Kind.cases_acc (k : Kind) : k = .load ∨ k = .store ∨ ((∀ c d, d.kind = k → addrOf c d = c) ∧ k.str ≠ Str.ofString "load" ∧ k.str ≠ Str.ofString "store") := by
  cases k
  case load => exact .inl rfl
  case store => exact .inr (.inl rfl)
  all_goals exact .inr (.inr ⟨fun c d h => by unfold addrOf; rw [h], by decide, by decide⟩)
inductive NoteJ (w : World) (ua : Addr) (tail : Led) (c : List (Int × Int)) (b : Nat) : Led → Prop
  | mk {o : Obj} (D : DictAt w o c) (hb : c.length ≤ b) : NoteJ w ua tail c b ((ua, o) :: tail)
theorem note {w : World} {dp un : Nat} {gd : Option (List Code)} {cn : Str} {cs : Scope} {a : Addr} {ccd : Value} {cl : List (Str × Addr)} {outer : List Env} {A₀ : Around} {base h₀ : Heap} {L : Addr} {m : Str → Option Value} {mean : ExcName → Option Value} {mg mb : Str → Option Value}
    {rest : Led} {s : Shared} {Q E : Value → Shared → Prop} {x dx ua aa : Addr} {h1 h2 h3 : Int} {t1 t2 t3 : Tok} {vs v : Value} {ou oa : Obj} {d : StepD} {c1 c2 : List (Int × Int)} (B : Below A₀ base outer h₀) (F : Fr h₀ L s.heap m) (X : (Mine.hd.heap_39 w.params).In h₀)
    (N : News h₀ L s.heap ((ua, ou) :: (aa, oa) :: rest)) (T : Top Mine.hd.view_39 (looseW Mine.hd.view_39 [Str.ofString "ACCESSES"]) mean mg mb h₀) (hk : cs.kind = .function)
    (hx : (x, instObj 158 dx) ∈ rest) (hdx : (dx, usageDict h1 h2 h3 t1 t2 t3 (.ref ua) (.ref aa) vs) ∈ rest) (hua : Off ua rest) (haa : Off aa rest) (hne : @Ne Nat ua aa) (lu : (ua == sysModules) = false) (la : (aa == sysModules) = false)
    (D1 : DictAt w ou c1) (D2 : DictAt w oa c2) (hS : StepAt rest v d) (hok : StepOk d) (hc1 : c1.length ≤ 1000) (hc2 : c2.length ≤ 1000) (hd : dp + 3 < recursionLimit) (hu : un + 60 < cLine)
    (hret : ∀ ou' oa' h' tk', Fr h₀ L h' m → News h₀ L h' ((ua, ou') :: (aa, oa') :: rest) → DictAt w ou' (usesOf c1 d) → DictAt w oa' (addrOf c2 d) → Q .none { s with heap := h', toks := tk' }) :
    wpAny (model PySem.Challenge.rw_nm0006_01.row.prog w) (ktrTop dp un gd cn cs L a ccd cl outer) (call (.ref 148) [.ref x, v]) Q E s := by
  w_top off
  k_with_none
  k_with "m_rst" => first | (with_reducible apply Rst.nil) | (with_reducible apply Rst.cons; k_extra "m_rst")
  k_with "m_pick" => first | (with_reducible apply Pick.head; k_extra "m_rst") | (with_reducible apply Pick.tail; k_extra "m_pick")
  k_with "m_draw" => (
  (case N => k_asm); (case P => k_extra "m_pick"); (case B => k_asm); (case F => k_asm); (case X => k_asm);
  (case off => ((try simp only [List.nil_append, List.cons_append]); k_all)); (case T => k_asm); (case k => first | exact rfl | assumption); (case W => assumption); (case I => assumption);
  (case b => omega); (case d => ktr_room); (case u => ktr_units))
  k_with "m_al" => first | assumption | exact And.right (by assumption) | exact And.right (And.right (by assumption)) | exact And.right (And.right (And.right (by assumption))) | exact And.right (And.right (And.right (And.right (by assumption)))) | exact And.right (And.right (And.right (And.right (And.right (by assumption))))) | exact And.right (And.right (And.right (And.right (And.right (And.right (by assumption)))))) | exact And.right (And.right (And.right (And.right (And.right (And.right (And.right (by assumption))))))) | exact And.right (And.right (And.right (And.right (And.right (And.right (And.right (And.right (by assumption)))))))) | exact And.right (And.right (And.right (And.right (And.right (And.right (And.right (And.right (And.right (by assumption))))))))) | exact And.right (And.right (And.right (And.right (And.right (And.right (And.right (And.right (And.right (And.right (by assumption)))))))))) | exact And.right (And.right (And.right (And.right (And.right (And.right (And.right (And.right (And.right (And.right (And.right (by assumption))))))))))) | exact And.right (And.right (And.right (And.right (And.right (And.right (And.right (And.right (And.right (And.right (And.right (And.right (by assumption)))))))))))) | exact And.right (And.right (And.right (And.right (And.right (And.right (And.right (And.right (And.right (And.right (And.right (And.right (And.right (by assumption))))))))))))) | exact And.right (And.right (And.right (And.right (And.right (And.right (And.right (And.right (And.right (And.right (And.right (And.right (And.right (And.right (by assumption)))))))))))))) | exact And.right (And.right (And.right (And.right (And.right (And.right (And.right (And.right (And.right (And.right (And.right (And.right (And.right (And.right (And.right (by assumption))))))))))))))) | exact And.right (And.right (And.right (And.right (And.right (And.right (And.right (And.right (And.right (And.right (And.right (And.right (And.right (And.right (And.right (And.right (by assumption)))))))))))))))) | exact And.right (And.right (And.right (And.right (And.right (And.right (And.right (And.right (And.right (And.right (And.right (And.right (And.right (And.right (And.right (And.right (And.right (by assumption))))))))))))))))) | exact And.right (And.right (And.right (And.right (And.right (And.right (And.right (And.right (And.right (And.right (And.right (And.right (And.right (And.right (And.right (And.right (And.right (And.right (by assumption)))))))))))))))))) | exact AllLt.up (by assumption) (by k_extra "m_al")
  k_with "m_cells" => first | k_extra "m_cellsG" | (simp only [List.map_append, List.map_cons, List.cons_append, List.nil_append, List.mem_cons, List.map_nil, List.mem_append]; intro x hx; first | assumption | (rcases hx with hx | hx <;> simp only [hx, true_or, or_true]))
  k_with "m_grow" => first | (with_reducible exact Grow.refl) | (with_reducible refine Grow.add ?_ ?_; k_extra "m_grow"; exact cellsNe (by first | k_extra "m_lt" | omega) (by k_extra "m_al")) | (with_reducible refine Grow.transR (by assumption) ?_ ?_; k_extra "m_cells"; k_extra "m_grow")
  k_with "m_cell1" => (simp only [List.map_append, List.map_cons, List.cons_append, List.nil_append, List.mem_cons, List.map_nil, List.mem_append, true_or, or_true]; done)
  k_with "m_mem" => first | exact List.Mem.head _ | (refine List.Mem.tail _ ?_; k_extra "m_mem")
  k_with "m_sub" => (intro p hp; simp only [List.mem_cons, hp, or_true])
  k_with "m_ctx" => ((case N => k_asm); (case B => k_asm); (case F => k_asm); (case X => k_asm); (case T => k_asm); (case k => first | exact rfl | assumption); (case d => ktr_room); (case u => ktr_units))
  k_with "m_subR" => (intro p hp; simp only [List.mem_cons, List.mem_append, hp, or_true])
  k_with "m_memT" => first | assumption | exact List.Mem.head _ | (refine List.Mem.tail _ ?_; k_extra "m_memT")
  k_with "m_mq" => first | (with_reducible exact List.mem_cons_self) | ((with_reducible refine List.mem_cons_of_mem _ ?_); k_extra "m_mq") | ((with_reducible refine List.mem_append_left _ ?_); k_extra "m_mq") | ((with_reducible refine List.mem_append_right _ ?_); k_extra "m_mq") | (with_reducible assumption)
  k_with "m_sq" => first | (with_reducible exact fa_self) | ((with_reducible refine fa_tail ?_); k_extra "m_sq") | ((with_reducible refine fa_left ?_); k_extra "m_sq") | ((with_reducible refine fa_right ?_); k_extra "m_sq") | (with_reducible assumption)
  k_with "m_perm" => ((repeat' (with_reducible first | refine fa_cons ?_ ?_ | refine fa_app ?_ ?_ | exact fa_nil)); all_goals (first | k_extra "m_mq" | k_extra "m_sq"))
  k_with "m_cellsG" => ((try simp only [List.cons_append, List.nil_append, List.map_cons, List.map_append]); k_extra "m_perm")
  k_with "exec Assign cons ListComp" => walk_at "exec Assign"
  k_with "m_lt" => first | (with_reducible exact Nat.lt_succ_self _) | ((with_reducible refine Nat.lt_succ_of_lt ?_); k_extra "m_lt") | (with_reducible assumption) | (with_reducible exact And.left (by assumption)) | (with_reducible exact And.left (And.right (by assumption))) | (with_reducible exact And.left (And.right (And.right (by assumption)))) | (with_reducible exact And.left (And.right (And.right (And.right (by assumption))))) | (with_reducible exact And.left (And.right (And.right (And.right (And.right (by assumption)))))) | (with_reducible exact And.left (And.right (And.right (And.right (And.right (And.right (by assumption))))))) | (with_reducible exact And.left (And.right (And.right (And.right (And.right (And.right (And.right (by assumption)))))))) | (with_reducible exact And.left (And.right (And.right (And.right (And.right (And.right (And.right (And.right (by assumption))))))))) | (with_reducible exact And.left (And.right (And.right (And.right (And.right (And.right (And.right (And.right (And.right (by assumption)))))))))) | (with_reducible exact And.right (by assumption)) | (with_reducible exact And.right (And.right (by assumption))) | (with_reducible exact And.right (And.right (And.right (by assumption)))) | (with_reducible exact And.right (And.right (And.right (And.right (by assumption))))) | ((with_reducible refine Nat.lt_trans ?_ (by assumption)); k_extra "m_lt")
  k_with "m_ne" => first | (with_reducible assumption) | (with_reducible exact Ne.symm (by assumption)) | (with_reducible exact Ne.symm (And.left (by assumption))) | (with_reducible exact Ne.symm (And.left (And.right (by assumption)))) | (with_reducible exact And.left (by assumption)) | (with_reducible exact And.left (And.right (by assumption))) | exact Nat.ne_of_gt (by k_extra "m_lt") | exact Nat.ne_of_lt (by k_extra "m_lt") | omega
  k_with "m_rm" => first | (with_reducible exact room1 (by assumption) (Nat.le_of_ble_eq_true rfl)) | (with_reducible exact room2 (by assumption) (Nat.le_of_ble_eq_true rfl)) | (with_reducible exact room3 (by assumption) (Nat.le_of_ble_eq_true rfl)) | ((simp only [depth_under_make, depth_under_kw, depth_in1, depth_deeper, depth_caller, units_in1, units_deeper, Around.mark_units, units_caller]); (try dsimp only [ktrTop]); first | (with_reducible exact room1 (by assumption) (Nat.le_of_ble_eq_true rfl)) | (with_reducible exact room2 (by assumption) (Nat.le_of_ble_eq_true rfl)) | (with_reducible exact room3 (by assumption) (Nat.le_of_ble_eq_true rfl)))
  k_with "call builtin:dict.get" => (k_here; k_dflt (refine' kdf_get2 (by exact tab_of (by k_asm) (by k_mem) (by assumption) (by assumption) (by assumption)) ?_); intro _)
  k_with "exec For Name Attribute cons nil" => (k_here; walk_at "m_kF"; with_unfolding_all refine For_invTF (by first | with_reducible assumption | assumption) ?_ (by intro _; rfl))
  k_with "pyIter ref" => ((with_reducible show wpAny _ _ (pyIter (Value.ref _)) (fun it s₂ => LoopAtT _ _ _ _ _ _ _ _ _ it s₂) _ _); refine hold ?_)
  k_with "subscriptTail" => (k_here; (with_reducible show wpAny _ _ (subscriptTail _ _ (Value.ref _) (Value.int 0 _)) _ _ _); k_dflt (refine' m_itemAt (i := 0) (by k_asm) (by k_mem) (by rfl) (by omega) ?_))
  (have kf : PySem.Challenge.rw_nm0006_01.Holds → Mine.hd.heap_39 w.params = Mine.hd.heap_39 w.params := by k_fill; intro; rfl); clear kf
  obtain @⟨sx, sdx, al, g1, g2, g3, g4, g5, g6, v1, v2, v3, v4, v5, v6, v7, to, td, vm, _, avs, an, hsx, hsdx, hal, ha2, hm⟩ := hS
  have hal13 := hok.2.2.2.1
  have havl := ha2.length
  have hne' := Ne.symm hne
  refine wpAny_call ?_
  k_dflt ktr_enter
  k_steps
  unfold Hold
  rename_i g' L1 hq1 FG kF N1 B1 X1 T1
  refine iter_list (l := al) (vs := avs) (n₀ := an) (fun i m₁ nw => NoteJ w ua ((aa, oa) :: rest) ((d.args.take i).foldl useOpd c1) (1000 + i) nw ∧ m₁ (Str.ofString "self") = some (.ref x) ∧ m₁ (Str.ofString "step") = some (.ref sx)) (by rfl) kF N1 ?hm ?hj ?turn ?done
  case hm => rintro i m₁ nw ⟨⟨_, _⟩, _⟩; exact .tail _ (.tail _ hal)
  case hj => exact ⟨.mk D1 hc1, rfl, rfl⟩
  case turn =>
    rintro i v m₁ nw s₁ I oI hv ⟨hJ, hm1, hm2⟩ off F2 N2
    obtain ⟨op, hop, hO⟩ := ha2.get hv
    rw [foldl_take _ _ hop]
    have hi : i < avs.length := (List.getElem?_eq_some_iff.mp hv).1
    generalize (d.args.take i).foldl useOpd c1 = c at hJ ⊢
    cases hJ with | @mk o D hb
    obtain ⟨hdD, hfD⟩ := D
    obtain ⟨m₀, rfl⟩ := map2 hm1 hm2
    have hIu : @Ne Nat I ua := Ne.symm (off _ (.head _))
    have offI := (off_cons.mp off).2
    have hcl : c.length ≤ 1100 := by omega
    clear kF N1 hm1 hm2
    cases hO with
    | r q1 q2 hmo =>
      k_steps
      rename_i oN kvN FN NN hdN hfN
      exact TurnEnd.intro (nw := (ua, oN) :: (aa, oa) :: rest) FN NN (fun p hp => hp) (off_cons.mpr ⟨Ne.symm hIu, offI⟩) ⟨.mk (c := bump c _) ⟨hdN, hfN⟩ (Nat.le_trans (bump_len _ _) (by omega)), rfl, rfl⟩
    | k hmo =>
      k_steps
      exact TurnEnd.intro (nw := (ua, o) :: (aa, oa) :: rest) (by assumption) (by assumption) (fun p hp => hp) (off_cons.mpr ⟨Ne.symm hIu, offI⟩) ⟨.mk (c := c) ⟨hdD, hfD⟩ (by omega), rfl, rfl⟩
  case done =>
    rintro m₁ nw h tk ⟨hJ, hm1, hm2⟩ F2 N2
    rw [take_all2 ha2] at hJ
    cases hJ with | @mk o D hb
    obtain ⟨m₀, rfl⟩ := map2 hm1 hm2
    obtain ⟨hdD, hfD⟩ := D
    obtain ⟨hdA, hfA⟩ := D2
    clear kF N1 hm1 hm2
    rcases Kind.cases_acc d.kind with hkd | hkd | ⟨hkd, hks⟩
    · obtain ⟨a0, ar, hargs⟩ := List.exists_cons_of_ne_nil (hok.2.1 (.inl hkd))
      have hW : addrOf c2 d = accOpd c2 (a0 :: ar) := by unfold addrOf; rw [hkd, hargs]
      rw [hW] at hret
      rw [hargs] at ha2
      rw [hkd] at hsdx
      cases ha2 with
      | cons hO hr =>
        cases hO with
        | r q1 q2 hmo =>
          k_steps
          rename_i hd9 hf9 kF kN Tc kX
          exact hret _ _ _ _ kF kN ⟨hdD, hfD⟩ ⟨hd9, hf9⟩
        | k hmo =>
          k_steps
          rename_i kF kN Tc kX
          exact hret _ _ _ _ kF kN ⟨hdD, hfD⟩ ⟨hdA, hfA⟩
    · obtain ⟨a0, ar, hargs⟩ := List.exists_cons_of_ne_nil (hok.2.1 (.inr hkd))
      have hW : addrOf c2 d = accOpd c2 (a0 :: ar) := by unfold addrOf; rw [hkd, hargs]
      rw [hW] at hret
      rw [hargs] at ha2
      rw [hkd] at hsdx
      cases ha2 with
      | cons hO hr =>
        cases hO with
        | r q1 q2 hmo =>
          k_steps
          rename_i hd9 hf9 kF kN Tc kX
          exact hret _ _ _ _ kF kN ⟨hdD, hfD⟩ ⟨hd9, hf9⟩
        | k hmo =>
          k_steps
          rename_i kF kN Tc kX
          exact hret _ _ _ _ kF kN ⟨hdD, hfD⟩ ⟨hdA, hfA⟩
    · rw [hkd _ _ rfl] at hret
      generalize d.kind.str = ops at hks hsdx
      obtain ⟨hk1, hk2⟩ := hks
      k_steps
      · rename_i a9
        exfalso
        simp only [Bool.or_false, Bool.or_eq_true, decide_eq_true_eq] at a9
        rcases a9 with h9 | h9
        · exact hk1 (h9.trans (by decide +kernel))
        · exact hk2 (h9.trans (by decide +kernel))
      · rename_i kF kN Tc kX
        exact hret _ _ _ _ kF kN ⟨hdD, hfD⟩ ⟨hdA, hfA⟩
end
end
section
section
variable {prog : Program} {w : World} {A : Around} {E : Value → Shared → Prop} {s : Shared} {h₀ : Heap} {L d : Addr} {m : Str → Option Value} {news : Led}
theorem keys_ints {vs : List Value} {kvs : List (Int × Value)} {c : List (Int × Int)} (hf : PyProof.V.FlatPairs PyData.int kvs (kdfD c)) (hl : vs.length = c.length)
    (hv : ∀ (j : Nat) (v : Value), vs[j]? = some v → ∃ k x, kvs[j]? = some (k, x) ∧ (PySem.intKind prog w).is k v = true) : IntsAre vs (c.map (·.1)) := by
  refine kdy_ints (by rw [hl, List.length_map]) fun j v hj => ?_
  obtain ⟨k, x, hx, hk⟩ := hv j v hj
  obtain ⟨p, hp, _⟩ := kdy_valAt hf hx
  obtain ⟨dv, hd, _⟩ := hf.at hx
  have h2 : (kdfD c)[j]? = some (PyData.int p.1, PyData.int p.2) := by unfold kdfD; rw [List.getElem?_map, hp]; rfl
  rw [h2] at hd
  have e : PyData.int p.1 = PyData.int k := congrArg Prod.fst (Option.some.inj hd)
  injection e with e
  obtain ⟨t, rfl⟩ := Value.isInt_shape hk
  exact ⟨p.1, by rw [List.getElem?_map, hp]; rfl, t, by rw [e]⟩
theorem dict_sorted {Q : Value → Shared → Prop} {c : List (Int × Int)} (hh : A.handled = none) (F : Fr h₀ L s.heap m) (N : News h₀ L s.heap news) (T : IntTab prog w s.heap d (kdfD c)) (hc : c.length < 64)
    (h : ∀ (B : Addr) (vs : List Value) (ns : List Int) (n : Nat) h' tk, Fr h₀ L h' m → News h₀ L h' ((B, listOf vs.toArray n) :: news) → (∀ q ∈ news, q.1 < B) → IntsAre vs ns → ns.Perm (c.map (·.1)) → Q (.ref B) { s with heap := h', toks := tk }) :
    wpAny (model prog w) A (call (.builtin "sorted") [.ref d]) Q E s := by
  obtain ⟨lo, kvs, hD, hf⟩ := T
  obtain ⟨ep, hat⟩ := hD.dictAt
  have hlen : kvs.length = c.length := by rw [← hf.length, kdfD_length]
  refine kdu_sorted (kdl_dict (knd := PySem.intKind prog w) (kvs := kvs) (ep := ep) lo) hh F N hat (kdl_size (by omega)) fun B h' tk vs F' N' l1 hl hv => ?_
  have hi : IntsAre vs (c.map (·.1)) := keys_ints hf (by omega) hv
  exact ksk_lsort (news' := fun o => (B, o) :: news) (vs := vs) F' N' (fun o => Upd.head fun p hp => Nat.ne_of_lt (l1 p hp)) rfl hi (by rw [List.length_map]; exact hc)
    fun vs' ns' c' h'' F'' N'' hi' _ hp _ _ => h B vs' ns' c' h'' tk F'' N'' l1 hi' hp
end
end
section
section
structure UsD where
  uses : List (Int × Int)
  addr : List (Int × Int)
  slots : List (Int × Int)
  sets : List (Int × Int)
def noteU (u : UsD) (d : StepD) : UsD := { u with uses := usesOf u.uses d, addr := addrOf u.addr d }
def stepU (u : UsD) (d : StepD) : UsD :=
  { uses := usesOf u.uses d, addr := addrOf u.addr d, sets := if 0 ≤ d.dst then bump u.sets d.dst else u.sets, slots := if d.kind.str = Str.ofString "slot" then kdfPut u.slots d.dst d.more else u.slots }
def blockU (u : UsD) (b : BlockD) : UsD := noteU (b.steps.foldl stepU u) b.fin
def paramU (c : List (Int × Int)) (r : Int) : List (Int × Int) := kdfPut c r 1
def usage0 (ps : List Int) (bs : List BlockD) : UsD := bs.foldl blockU ⟨[], [], [], ps.foldl paramU []⟩
def delU (sets : List (Int × Int)) (c : List (Int × Int)) (k : Int) : List (Int × Int) := if kdfLook sets k 0 = 1 then c else kdyDel c k
theorem has_put (c : List (Int × Int)) (k v j : Int) : kdfHas (kdfPut c k v) j = (decide (k = j) || kdfHas c j) := by
  unfold kdfPut
  split
  · rename_i h
    have e : kdfHas (c.map fun p => if decide (p.1 = k) then (p.1, v) else p) j = kdfHas c j := by
      unfold kdfHas
      rw [List.any_map]
      congr 1
      funext p
      simp only [Function.comp]
      split <;> rfl
    rw [e]
    by_cases hk : k = j
    · subst hk
      have h2 : kdfHas c k = true := h
      rw [h2, Bool.or_true]
    · rw [decide_eq_false hk, Bool.false_or]
  · unfold kdfHas
    rw [List.any_append, Bool.or_comm]
    simp
theorem has_mem {c : List (Int × Int)} {k : Int} : kdfHas c k = true ↔ k ∈ c.map (·.1) := by
  unfold kdfHas
  rw [List.any_eq_true, List.mem_map]
  constructor
  · rintro ⟨p, hp, e⟩; exact ⟨p, hp, of_decide_eq_true e⟩
  · rintro ⟨p, hp, e⟩; exact ⟨p, hp, decide_eq_true e⟩
theorem nodup_put {c : List (Int × Int)} (k v : Int) (h : (c.map (·.1)).Nodup) : ((kdfPut c k v).map (·.1)).Nodup := by
  unfold kdfPut
  split
  · have e : (c.map fun p => if decide (p.1 = k) then (p.1, v) else p).map (·.1) = c.map (·.1) := by
      rw [List.map_map]
      refine List.map_congr_left fun p _ => ?_
      simp only [Function.comp]
      split <;> rfl
    rw [e]; exact h
  · rename_i hn
    rw [List.map_append, List.nodup_append]
    refine ⟨h, by simp, fun a ha b hb => ?_⟩
    have hb2 : b = k := by simpa using hb
    subst hb2
    rintro rfl
    exact hn (has_mem.mpr ha)
def UOk (u : UsD) : Prop := (∀ k, kdfHas u.slots k = true → kdfHas u.sets k = true) ∧ (u.slots.map (·.1)).Nodup
theorem stepU_ok {u : UsD} {st : StepD} (h : UOk u) (hs : StepOk st) : UOk (stepU u st) := by
  unfold stepU
  refine ⟨fun k hk => ?_, ?_⟩
  · dsimp only at hk ⊢
    have keep : kdfHas u.sets k = true → kdfHas (if 0 ≤ st.dst then bump u.sets st.dst else u.sets) k = true := by
      intro hh; split
      · unfold bump; rw [has_put, hh, Bool.or_true]
      · exact hh
    split at hk
    · rename_i hsl
      have hkind : st.kind = .slot := by
        cases hq : st.kind <;> rw [hq] at hsl <;> first | rfl | exact absurd hsl (by decide +kernel)
      obtain ⟨h0, _⟩ := hs.2.2.1 hkind
      rw [has_put] at hk
      rcases Bool.or_eq_true_iff.mp hk with e | e
      · rw [if_pos h0]; unfold bump; rw [has_put, e, Bool.true_or]
      · exact keep (h.1 k e)
    · exact keep (h.1 k hk)
  · dsimp only
    split
    · exact nodup_put _ _ h.2
    · exact h.2
theorem usage0_ok {ps : List Int} {bs : List BlockD} {n : Nat} (hb : ∀ b ∈ bs, BlockOk n b) : UOk (usage0 ps bs) := by
  have hst : ∀ (l : List StepD) (u : UsD), (∀ st ∈ l, StepOk st) → UOk u → UOk (l.foldl stepU u) := by
    intro l
    induction l with
    | nil => intro u _ h; exact h
    | cons st r ih => intro u hl h; exact ih _ (fun x hx => hl x (.tail _ hx)) (stepU_ok h (hl st (.head _)))
  have hbl : ∀ (l : List BlockD) (u : UsD), (∀ b ∈ l, BlockOk n b) → UOk u → UOk (l.foldl blockU u) := by
    intro l
    induction l with
    | nil => intro u _ h; exact h
    | cons b r ih =>
      intro u hl h
      refine ih _ (fun x hx => hl x (.tail _ hx)) ?_
      exact hst b.steps u (fun st hs => ((hl b (.head _)).2.1 st hs).1) h
  exact hbl bs _ hb ⟨fun k hk => by simp [kdfHas] at hk, List.nodup_nil⟩
theorem del_has {c : List (Int × Int)} {k r : Int} (h : r ≠ k) : kdfHas (kdyDel c r) k = kdfHas c k := by
  unfold kdyDel kdfHas
  rw [List.any_filter]
  congr 1
  funext p
  by_cases e : p.1 = k
  · have : p.1 ≠ r := fun e2 => h (e2.symm.trans e)
    simp [e, Ne.symm h]
  · simp [e]
theorem delU_has {sets : List (Int × Int)} : ∀ (l : List Int) (c : List (Int × Int)) (k : Int), k ∉ l → kdfHas (l.foldl (delU sets) c) k = kdfHas c k
  | [], _, _, _ => rfl
  | r :: l, c, k, h => by
    rw [List.foldl_cons, delU_has l _ k fun hm => h (.tail _ hm)]
    have hr : r ≠ k := by rintro rfl; exact h (.head _)
    unfold delU
    split
    · rfl
    · exact del_has hr
theorem delU_len {sets : List (Int × Int)} : ∀ (l : List Int) (c : List (Int × Int)), (l.foldl (delU sets) c).length ≤ c.length
  | [], _ => Nat.le_refl _
  | r :: l, c => by
    rw [List.foldl_cons]
    refine Nat.le_trans (delU_len l _) ?_
    unfold delU kdyDel
    split
    · exact Nat.le_refl _
    · exact List.length_filter_le _ _
theorem not_in_take {l : List Int} {i : Nat} {r : Int} (hn : l.Nodup) (h : l[i]? = some r) : r ∉ l.take i := by
  intro hm
  have hd : r ∈ l.drop i := by
    have e : (l.drop i)[0]? = some r := by rw [List.getElem?_drop]; exact h
    exact List.mem_of_getElem? e
  rw [← List.take_append_drop i l, List.nodup_append] at hn
  exact hn.2.2 r hm r hd rfl
end
end
section
section
inductive UsAt (w : World) (ua aa sa sd : Addr) (tail : Led) (u : UsD) (b1 b2 : Nat) : Led → Prop
  | mk {o1 o2 o3 o4 : Obj} (D1 : DictAt w o1 u.uses) (D2 : DictAt w o2 u.addr) (D3 : DictAt w o3 u.slots) (D4 : DictAt w o4 u.sets) (l1 : u.uses.length ≤ b1) (l2 : u.addr.length ≤ b1) (l3 : u.slots.length ≤ b2) (l4 : u.sets.length ≤ b2) :
      UsAt w ua aa sa sd tail u b1 b2 ((ua, o1) :: (aa, o2) :: (sa, o3) :: (sd, o4) :: tail)
def BlocksAt (rest : Led) (v : Value) (bs : List BlockD) : Prop := ∃ al vs n, v = .ref al ∧ (al, listOf (List.toArray vs) n) ∈ rest ∧ All2 (BlockAt rest) vs bs
theorem fold_len (l : List Opd) : ∀ c : List (Int × Int), (l.foldl useOpd c).length ≤ c.length + l.length := by
  induction l with
  | nil => intro c; exact Nat.le_refl _
  | cons o r ih =>
    intro c
    have h1 := ih (useOpd c o)
    have h2 : (useOpd c o).length ≤ c.length + 1 := by
      cases o with
      | r i => exact bump_len _ _
      | k i => exact Nat.le_succ _
    rw [List.foldl_cons, List.length_cons]; omega
theorem usesOf_len (c : List (Int × Int)) (d : StepD) : (usesOf c d).length ≤ c.length + d.args.length := fold_len _ _
theorem accOpd_len (c : List (Int × Int)) (l : List Opd) : (accOpd c l).length ≤ c.length + 1 := by
  cases l with
  | nil => exact Nat.le_succ _
  | cons o r => cases o with
    | r i => exact bump_len _ _
    | k i => exact Nat.le_succ _
theorem addrOf_len (c : List (Int × Int)) (d : StepD) : (addrOf c d).length ≤ c.length + 1 := by
  unfold addrOf; split <;> first | exact accOpd_len _ _ | exact Nat.le_succ _
theorem Kind.ne_slot {k : Kind} (h : k ≠ .slot) : (k.str = Str.ofString "slot") = False := by
  cases k <;> first | exact absurd rfl h | exact eq_false (by decide +kernel)
theorem units_call (A : Around) (args : Args) : (A.under (.builtin "type.__call__" args)).units = A.units + 1 := by
  first | rfl | simp [Around.under, Code.cUnits, Code.frames, Code.isFrame]
local macro_rules | `(tactic| walk_at "call builtin:sorted") => `(tactic| (k_here; (with_reducible show wpAny _ _ (call (Value.builtin "sorted") [Value.ref _]) _ _ _); k_dflt (refine' dict_sorted ?k1 ?k2 ?k3 ?k4 ?k5 ?_; (case k1 => rfl); (case k2 => k_asm); (case k3 => k_asm); (case k4 => exact tab_of (by k_asm) (by k_mem) (by assumption) (by assumption) (by assumption)); (case k5 => omega)); intro D' vs' ns' c' h' tk' F' N' l1 hI' hp'; (try k_lt l1); (try k_sweep)))
local macro_rules | `(tactic| walk_at "delItem ref int") => `(tactic| (k_here; k_dflt (refine' kdy_del ?F ?N ?U ?d ?f ?k ?z ?_; (case F => k_asm); (case N => k_asm); (case U => k_updF); (case d => assumption); (case f => assumption); (case k => assumption); (case z => omega)); intro h' o' kvs' F' N' hd' hf'; (try dsimp only at N')))
theorem off4 {I ua aa sa sd : Addr} {p1 p2 p3 p4 q1 q2 q3 q4 : Obj} {tl : Led} (h : Off I ((ua, p1) :: (aa, p2) :: (sa, p3) :: (sd, p4) :: tl)) : Off I ((ua, q1) :: (aa, q2) :: (sa, q3) :: (sd, q4) :: tl) := by
  simp only [off_cons] at h ⊢; exact h
theorem mkUsage {w : World} {dp un : Nat} {gd : Option (List Code)} {cn : Str} {cs : Scope} {a : Addr} {ccd : Value} {cl : List (Str × Addr)} {outer : List Env} {A₀ : Around} {base h₀ : Heap} {L : Addr} {m : Str → Option Value} {mean : ExcName → Option Value} {mg mb : Str → Option Value}
    {news : Led} {s : Shared} {Q E : Value → Shared → Prop} {v1 v2 : Value} {d : FuncD} {bs : List BlockD} {nn : Nat} (B : Below A₀ base outer h₀) (F : Fr h₀ L s.heap m) (X : (Mine.hd.heap_39 w.params).In h₀) (N : News h₀ L s.heap news) (T : Top Mine.hd.view_39 (looseW Mine.hd.view_39 [Str.ofString "ACCESSES"]) mean mg mb h₀) (hk : cs.kind = .function)
    (hf : FuncAt news v1 d) (hbs : BlocksAt news v2 bs) (hok : FuncOk d) (hbok : ∀ b ∈ bs, BlockOk nn b) (hbl : bs.length ≤ 3)
    (hd : dp + 8 < recursionLimit) (hu : un + 400 < cLine)
    (hret : ∀ x dx ua aa sa o1 o2 o3 h1 h2 h3 t1 t2 t3 (ks : List Int) h' tk', Fr h₀ L h' m → News h₀ L h' ((x, instObj 158 dx) :: (dx, usageDict h1 h2 h3 t1 t2 t3 (.ref ua) (.ref aa) (.ref sa)) :: (ua, o1) :: (aa, o2) :: (sa, o3) :: news) →
      (ua == sysModules) = false → (aa == sysModules) = false → (sa == sysModules) = false → DictAt w o1 (usage0 d.params bs).uses → DictAt w o2 (usage0 d.params bs).addr → ks.Perm ((usage0 d.params bs).slots.map (·.1)) →
      DictAt w o3 (ks.foldl (delU (usage0 d.params bs).sets) (usage0 d.params bs).slots) → Q (.ref x) { s with heap := h', toks := tk' }) :
    wpAny (model PySem.Challenge.rw_nm0006_01.row.prog w) (ktrTop dp un gd cn cs L a ccd cl outer) (call (.ref 158) [v1, v2]) Q E s := by
  w_top off
  k_with_none
  k_with "m_rst" => first | (with_reducible apply Rst.nil) | (with_reducible apply Rst.cons; k_extra "m_rst")
  k_with "m_pick" => first | (with_reducible apply Pick.head; k_extra "m_rst") | (with_reducible apply Pick.tail; k_extra "m_pick")
  k_with "m_draw" => (
  (case N => k_asm); (case P => k_extra "m_pick"); (case B => k_asm); (case F => k_asm); (case X => k_asm);
  (case off => ((try simp only [List.nil_append, List.cons_append]); k_all)); (case T => k_asm); (case k => first | exact rfl | assumption); (case W => assumption); (case I => assumption);
  (case b => omega); (case d => ktr_room); (case u => ktr_units))
  k_with "m_al" => first | assumption | exact And.right (by assumption) | exact And.right (And.right (by assumption)) | exact And.right (And.right (And.right (by assumption))) | exact And.right (And.right (And.right (And.right (by assumption)))) | exact And.right (And.right (And.right (And.right (And.right (by assumption))))) | exact And.right (And.right (And.right (And.right (And.right (And.right (by assumption)))))) | exact And.right (And.right (And.right (And.right (And.right (And.right (And.right (by assumption))))))) | exact And.right (And.right (And.right (And.right (And.right (And.right (And.right (And.right (by assumption)))))))) | exact And.right (And.right (And.right (And.right (And.right (And.right (And.right (And.right (And.right (by assumption))))))))) | exact And.right (And.right (And.right (And.right (And.right (And.right (And.right (And.right (And.right (And.right (by assumption)))))))))) | exact And.right (And.right (And.right (And.right (And.right (And.right (And.right (And.right (And.right (And.right (And.right (by assumption))))))))))) | exact And.right (And.right (And.right (And.right (And.right (And.right (And.right (And.right (And.right (And.right (And.right (And.right (by assumption)))))))))))) | exact And.right (And.right (And.right (And.right (And.right (And.right (And.right (And.right (And.right (And.right (And.right (And.right (And.right (by assumption))))))))))))) | exact And.right (And.right (And.right (And.right (And.right (And.right (And.right (And.right (And.right (And.right (And.right (And.right (And.right (And.right (by assumption)))))))))))))) | exact And.right (And.right (And.right (And.right (And.right (And.right (And.right (And.right (And.right (And.right (And.right (And.right (And.right (And.right (And.right (by assumption))))))))))))))) | exact And.right (And.right (And.right (And.right (And.right (And.right (And.right (And.right (And.right (And.right (And.right (And.right (And.right (And.right (And.right (And.right (by assumption)))))))))))))))) | exact And.right (And.right (And.right (And.right (And.right (And.right (And.right (And.right (And.right (And.right (And.right (And.right (And.right (And.right (And.right (And.right (And.right (by assumption))))))))))))))))) | exact And.right (And.right (And.right (And.right (And.right (And.right (And.right (And.right (And.right (And.right (And.right (And.right (And.right (And.right (And.right (And.right (And.right (And.right (by assumption)))))))))))))))))) | exact AllLt.up (by assumption) (by k_extra "m_al")
  k_with "m_cells" => first | k_extra "m_cellsG" | (simp only [List.map_append, List.map_cons, List.cons_append, List.nil_append, List.mem_cons, List.map_nil, List.mem_append]; intro x hx; first | assumption | (rcases hx with hx | hx <;> simp only [hx, true_or, or_true]))
  k_with "m_grow" => first | (with_reducible exact Grow.refl) | (with_reducible refine Grow.add ?_ ?_; k_extra "m_grow"; exact cellsNe (by first | k_extra "m_lt" | omega) (by k_extra "m_al")) | (with_reducible refine Grow.transR (by assumption) ?_ ?_; k_extra "m_cells"; k_extra "m_grow")
  k_with "m_cell1" => (simp only [List.map_append, List.map_cons, List.cons_append, List.nil_append, List.mem_cons, List.map_nil, List.mem_append, true_or, or_true]; done)
  k_with "m_mem" => first | exact List.Mem.head _ | (refine List.Mem.tail _ ?_; k_extra "m_mem")
  k_with "m_sub" => (intro p hp; simp only [List.mem_cons, hp, or_true])
  k_with "m_ctx" => ((case N => k_asm); (case B => k_asm); (case F => k_asm); (case X => k_asm); (case T => k_asm); (case k => first | exact rfl | assumption); (case d => ktr_room); (case u => ktr_units))
  k_with "m_subR" => (intro p hp; simp only [List.mem_cons, List.mem_append, hp, or_true])
  k_with "m_memT" => first | assumption | exact List.Mem.head _ | (refine List.Mem.tail _ ?_; k_extra "m_memT")
  k_with "m_mq" => first | (with_reducible exact List.mem_cons_self) | ((with_reducible refine List.mem_cons_of_mem _ ?_); k_extra "m_mq") | ((with_reducible refine List.mem_append_left _ ?_); k_extra "m_mq") | ((with_reducible refine List.mem_append_right _ ?_); k_extra "m_mq") | (with_reducible assumption)
  k_with "m_sq" => first | (with_reducible exact fa_self) | ((with_reducible refine fa_tail ?_); k_extra "m_sq") | ((with_reducible refine fa_left ?_); k_extra "m_sq") | ((with_reducible refine fa_right ?_); k_extra "m_sq") | (with_reducible assumption)
  k_with "m_perm" => ((repeat' (with_reducible first | refine fa_cons ?_ ?_ | refine fa_app ?_ ?_ | exact fa_nil)); all_goals (first | k_extra "m_mq" | k_extra "m_sq"))
  k_with "m_cellsG" => ((try simp only [List.cons_append, List.nil_append, List.map_cons, List.map_append]); k_extra "m_perm")
  k_with "exec Assign cons ListComp" => walk_at "exec Assign"
  k_with "m_lt" => first | (with_reducible exact Nat.lt_succ_self _) | ((with_reducible refine Nat.lt_succ_of_lt ?_); k_extra "m_lt") | (with_reducible assumption) | (with_reducible exact And.left (by assumption)) | (with_reducible exact And.left (And.right (by assumption))) | (with_reducible exact And.left (And.right (And.right (by assumption)))) | (with_reducible exact And.left (And.right (And.right (And.right (by assumption))))) | (with_reducible exact And.left (And.right (And.right (And.right (And.right (by assumption)))))) | (with_reducible exact And.left (And.right (And.right (And.right (And.right (And.right (by assumption))))))) | (with_reducible exact And.left (And.right (And.right (And.right (And.right (And.right (And.right (by assumption)))))))) | (with_reducible exact And.left (And.right (And.right (And.right (And.right (And.right (And.right (And.right (by assumption))))))))) | (with_reducible exact And.left (And.right (And.right (And.right (And.right (And.right (And.right (And.right (And.right (by assumption)))))))))) | (with_reducible exact And.right (by assumption)) | (with_reducible exact And.right (And.right (by assumption))) | (with_reducible exact And.right (And.right (And.right (by assumption)))) | (with_reducible exact And.right (And.right (And.right (And.right (by assumption))))) | ((with_reducible refine Nat.lt_trans ?_ (by assumption)); k_extra "m_lt")
  k_with "m_ne" => first | (with_reducible assumption) | (with_reducible exact Ne.symm (by assumption)) | (with_reducible exact Ne.symm (And.left (by assumption))) | (with_reducible exact Ne.symm (And.left (And.right (by assumption)))) | (with_reducible exact And.left (by assumption)) | (with_reducible exact And.left (And.right (by assumption))) | exact Nat.ne_of_gt (by k_extra "m_lt") | exact Nat.ne_of_lt (by k_extra "m_lt") | omega
  k_with "m_rm" => first | (with_reducible exact room1 (by assumption) (Nat.le_of_ble_eq_true rfl)) | (with_reducible exact room2 (by assumption) (Nat.le_of_ble_eq_true rfl)) | (with_reducible exact room3 (by assumption) (Nat.le_of_ble_eq_true rfl)) | ((simp only [depth_under_make, depth_under_kw, depth_in1, depth_deeper, depth_caller, units_in1, units_deeper, Around.mark_units, units_caller]); (try dsimp only [ktrTop]); first | (with_reducible exact room1 (by assumption) (Nat.le_of_ble_eq_true rfl)) | (with_reducible exact room2 (by assumption) (Nat.le_of_ble_eq_true rfl)) | (with_reducible exact room3 (by assumption) (Nat.le_of_ble_eq_true rfl)))
  k_with "call builtin:dict.get" => (k_here; k_dflt (refine' kdf_get2 (by exact tab_of (by k_asm) (by k_mem) (by assumption) (by assumption) (by assumption)) ?_); intro _)
  k_with "exec For Name Attribute cons nil" => (k_here; walk_at "m_kF"; with_unfolding_all refine For_invTF (by first | with_reducible assumption | assumption) ?_ (by intro _; rfl))
  k_with "exec For Name Name cons nil" => (k_here; walk_at "m_kF"; with_unfolding_all refine For_invTF (by first | with_reducible assumption | assumption) ?_ (by intro _; rfl))
  k_with "exec For Name Call cons nil" => (k_here; walk_at "m_kF"; with_unfolding_all refine For_invTF (by first | with_reducible assumption | assumption) ?_ (by intro _; rfl))
  k_with "compareOp Eq str str" => (refine m_eqstr_ne (by assumption) ?_)
  k_with "pyIter ref" => ((with_reducible show wpAny _ _ (pyIter (Value.ref _)) (fun it s₂ => LoopAtT _ _ _ _ _ _ _ _ _ it s₂) _ _); refine hold ?_)
  k_with "subscriptTail" => (k_here; (with_reducible show wpAny _ _ (subscriptTail _ _ (Value.ref _) (Value.int _ _)) _ _ _); k_dflt (refine' kdf_item (by exact tab_of (by k_asm) (by k_mem) (by assumption) (by assumption) (by assumption)) (by assumption) ?_); intro _)
  k_with "call ref cons nil" => (k_here; (with_reducible show wpAny _ _ (call (Value.ref 148) [Value.ref _, _]) _ _ _); refine hold ?_)
  (have kf : PySem.Challenge.rw_nm0006_01.Holds → Mine.hd.heap_39 w.params = Mine.hd.heap_39 w.params := by k_fill; intro; rfl); clear kf
  obtain @⟨fx, fdx, bl, _, _, _, _, _, _, _, _, _, _, _, _, _, _, _, vn, vp, vs, _, bvs, bn, hfx, hfdx, hfp, hfs, hfbl, hfb2⟩ := hf
  obtain ⟨pl, pvs, pn, rfl, hpl, hpv⟩ := hfp
  obtain ⟨bal, bvs2, bn2, rfl, hbal, hbv⟩ := hbs
  k_dflt (refine' call_cls ?k1 ?k2 ?k3 ?k4 ?k5 ?k6 ?_; (case k1 => k_asm); (case k2 => k_asm); (case k3 => k_asm); (case k4 => k_is); (case k5 => k_is); (case k6 => k_is); k_whole; intro x' d' h' F' N' l1 l2; (have l1c := allLt_of l1); (have l2c := ltN l2); (try k_sweep); ktr_enter)
  k_steps
  unfold Hold
  rename_i g' L1 hq0 FG B1 X1 T1 ua hq1 o1 lou hsu fsu hiu fiu lua hq2 aa hq3 o2 loa hsa fsa hia fia laa hq4 sa hq5 o3 los hss fss his fis lsa hq6 sd hq7 o4 lod hsd fsd hid fid lsd hq8 kF N1
  obtain ⟨k1, k2, k3, u1, u2, u3, N2⟩ : ∃ k1 k2 k3 u1 u2 u3, News g' L1 hq8 ((ua, o1) :: (aa, o2) :: (sa, o3) :: (sd, o4) :: (x', instObj 158 d') :: (d', usageDict k1 k2 k3 u1 u2 u3 (.ref ua) (.ref aa) (.ref sa)) :: news) := ⟨_, _, _, _, _, _, News.sub' N1 (by k_extra "m_perm")⟩
  have hsub : ∀ p, p ∈ news → p ∈ (x', instObj 158 d') :: (d', usageDict k1 k2 k3 u1 u2 u3 (.ref ua) (.ref aa) (.ref sa)) :: news := fun p hp => .tail _ (.tail _ hp)
  have ofu : Off ua ((x', instObj 158 d') :: (d', usageDict k1 k2 k3 u1 u2 u3 (.ref ua) (.ref aa) (.ref sa)) :: news) := allLt_off lua
  have ofa : Off aa ((x', instObj 158 d') :: (d', usageDict k1 k2 k3 u1 u2 u3 (.ref ua) (.ref aa) (.ref sa)) :: news) := allLt_off laa.2
  have ofs : Off sa ((x', instObj 158 d') :: (d', usageDict k1 k2 k3 u1 u2 u3 (.ref ua) (.ref aa) (.ref sa)) :: news) := allLt_off lsa.2.2
  have ofd : Off sd ((x', instObj 158 d') :: (d', usageDict k1 k2 k3 u1 u2 u3 (.ref ua) (.ref aa) (.ref sa)) :: news) := allLt_off lsd.2.2.2
  have hne : (@LT.lt Nat _ ua aa) ∧ (@LT.lt Nat _ aa sa) ∧ (@LT.lt Nat _ sa sd) := by refine ⟨?_, ?_, ?_⟩ <;> omega
  obtain ⟨hn1, hn2, hn3⟩ := hne
  clear lua laa lsa lsd hsu fsu hsa fsa hss fss hsd fsd l1 l2 l1c l2c N1
  obtain ⟨tl, htl⟩ : ∃ tl : Led, tl = (x', instObj 158 d') :: (d', usageDict k1 k2 k3 u1 u2 u3 (.ref ua) (.ref aa) (.ref sa)) :: news := ⟨_, rfl⟩
  have mx : (x', instObj 158 d') ∈ tl := by rw [htl]; exact .head _
  have md : (d', usageDict k1 k2 k3 u1 u2 u3 (.ref ua) (.ref aa) (.ref sa)) ∈ tl := by rw [htl]; exact .tail _ (.head _)
  rw [← htl] at N2 hsub ofu ofa ofs ofd
  have hpl2 := hsub _ hpl
  have hbal2 := hsub _ hbal
  have hbv2 := hbv.imp fun _ _ => BlockAt.mono hsub
  have hpl3 : pvs.length ≤ 2 := by rw [hpv.length]; rcases hok.2.2.1 with e | e | e <;> rw [e] <;> simp
  refine iter_list (l := pl) (vs := pvs) (n₀ := pn) (fun i m₁ nw => UsAt w ua aa sa sd tl ⟨[], [], [], (d.params.take i).foldl paramU []⟩ 0 i nw ∧ m₁ (Str.ofString "self") = some (.ref x') ∧ m₁ (Str.ofString "blocks") = some (.ref bal) ∧ m₁ (Str.ofString "sets") = some (.ref sd)) (by rfl) kF N2 ?hmA ?hjA ?turnA ?doneA
  case hmA => rintro i m₁ nw ⟨⟨_, _, _, _⟩, _⟩; exact .tail _ (.tail _ (.tail _ (.tail _ hpl2)))
  case hjA => exact ⟨.mk ⟨hiu, fiu⟩ ⟨hia, fia⟩ ⟨his, fis⟩ ⟨hid, fid⟩ (Nat.le_refl _) (Nat.le_refl _) (Nat.le_refl _) (Nat.le_refl _), rfl, rfl, rfl⟩
  case turnA =>
    rintro i v m₁ nw s₁ I oI hv ⟨hJ, hm1, hm2, hm3⟩ off F3 N3
    obtain ⟨r, hr, hR⟩ := hpv.get hv
    rw [foldl_take _ _ hr]
    obtain ⟨tr⟩ := hR
    generalize (d.params.take i).foldl paramU [] = c at hJ ⊢
    have hi : i < pvs.length := (List.getElem?_eq_some_iff.mp hv).1
    cases hJ with | @mk p1 p2 p3 p4 D1 D2 D3 D4 b1 b2 b3 b4
    obtain ⟨hdD, hfD⟩ := D4
    dsimp only at hfD b4
    obtain ⟨m₀, rfl⟩ := map3 hm1 hm2 hm3
    have hId : @Ne Nat I sd := Ne.symm (off _ (.tail _ (.tail _ (.tail _ (.head _)))))
    clear kF N2 hm1 hm2 hm3 hret
    k_steps
    rename_i oN kvN FN NN hdN hfN
    exact TurnEnd.intro (nw := (ua, p1) :: (aa, p2) :: (sa, p3) :: (sd, oN) :: tl) FN NN (fun p hp => hp) (off4 off) ⟨.mk D1 D2 D3 ⟨hdN, hfN⟩ b1 b2 (Nat.le_succ_of_le b3) (Nat.le_trans (kdfPut_len _ _ _) (Nat.succ_le_succ b4)), rfl, rfl, rfl⟩
  case doneA =>
    rintro m₁ nw h tk ⟨hJ, hm1, hm2, hm3⟩ F3 N3
    rw [take_all2 hpv] at hJ
    obtain ⟨m₀, rfl⟩ := map3 hm1 hm2 hm3
    clear kF N2 hm1 hm2 hm3
    k_steps
    unfold Hold
    rename_i kF
    have hbl2 : bvs2.length ≤ 3 := by rw [hbv2.length]; exact hbl
    refine iter_list (l := bal) (vs := bvs2) (n₀ := bn2) (fun i m₁ nw => UsAt w ua aa sa sd tl ((bs.take i).foldl blockU ⟨[], [], [], d.params.foldl paramU []⟩) (60 * i) (2 + 3 * i) nw ∧ m₁ (Str.ofString "self") = some (.ref x') ∧ m₁ (Str.ofString "sets") = some (.ref sd)) (by rfl) kF N3 ?hmB ?hjB ?turnB ?doneB
    case hmB => rintro i m₁ nw ⟨⟨_, _, _, _⟩, _⟩; exact .tail _ (.tail _ (.tail _ (.tail _ hbal2)))
    case hjB =>
      refine ⟨?_, rfl, rfl⟩
      cases hJ with | @mk p1 p2 p3 p4 D1 D2 D3 D4 b1 b2 b3 b4
      exact .mk D1 D2 D3 D4 b1 b2 (Nat.zero_le _) (Nat.le_trans b4 hpl3)
    case turnB =>
      rintro i v m₁ nw s₁ I oI hv ⟨hJ, hm1, hm2⟩ off F4 N4
      obtain ⟨b, hb, hB⟩ := hbv2.get hv
      rw [foldl_take _ _ hb]
      generalize (bs.take i).foldl blockU ⟨[], [], [], d.params.foldl paramU []⟩ = u at hJ ⊢
      have hi : i < bvs2.length := (List.getElem?_eq_some_iff.mp hv).1
      have hbo := hbok b (List.mem_of_getElem? hb)
      obtain @⟨x2, dx2, sl, _, _, _, _, _, _, vn2, ve2, _, svs, sn, hx2, hdx2, hsl, hs2, hfin⟩ := hB
      cases hJ with | @mk p1 p2 p3 p4 D1 D2 D3 D4 b1 b2 b3 b4
      obtain ⟨m₀, rfl⟩ := map2 hm1 hm2
      clear kF N3 hm1 hm2 hret
      k_steps
      unfold Hold
      rename_i kF N5
      refine iter_list (l := sl) (vs := svs) (n₀ := sn) (fun j m₁ nw => (∃ nw', nw = (I, oI) :: nw' ∧ UsAt w ua aa sa sd tl ((b.steps.take j).foldl stepU u) (60 * i + 14 * j) (2 + 3 * i + j) nw') ∧ m₁ (Str.ofString "self") = some (.ref x') ∧ m₁ (Str.ofString "sets") = some (.ref sd) ∧ m₁ (Str.ofString "block") = some (.ref x2)) (by rfl) kF N5 ?hmC ?hjC ?turnC ?doneC
      case hmC => rintro i m₁ nw ⟨⟨nw', rfl, ⟨_, _, _, _⟩⟩, _⟩; exact .tail _ (.tail _ (.tail _ (.tail _ (.tail _ hsl))))
      case hjC => exact ⟨⟨_, rfl, .mk D1 D2 D3 D4 b1 b2 b3 b4⟩, rfl, rfl, rfl⟩
      case turnC =>
        rintro j v m₂ nw s₂ I2 oI2 hv2 ⟨⟨nw', rfl, hJ⟩, hm1, hm2, hm3⟩ off2 F5 N6
        clear kF N5 D1 D2 D3 D4 b1 b2 b3 b4 F4 N4
        obtain ⟨st, hst, hS⟩ := hs2.get hv2
        rw [foldl_take _ _ hst]
        generalize (b.steps.take j).foldl stepU u = u2 at hJ ⊢
        obtain ⟨hso, -, -⟩ := hbo.2.1 st (List.mem_of_getElem? hst)
        have hj : j < 3 := by have h1 := (List.getElem?_eq_some_iff.mp hst).1; have h2 := hbo.1; omega
        cases hJ with | @mk p1 p2 p3 p4 D1 D2 D3 D4 b1 b2 b3 b4
        obtain ⟨m₃, rfl⟩ := map3 hm1 hm2 hm3
        have hvs := hS
        obtain @⟨sx, sdx, al, g1, g2, g3, g4, g5, g6, v1, v2, v3, v4, v5, v6, v7, to, td, vm, _, avs, an, hsx, hsdx, hal, ha2, hmo⟩ := hvs
        clear hm1 hm2 hm3
        have hI2 : (@Ne Nat I2 ua) ∧ (@Ne Nat I2 aa) ∧ (@Ne Nat I2 sa) ∧ (@Ne Nat I2 sd) ∧ (@Ne Nat I ua) ∧ (@Ne Nat I aa) ∧ (@Ne Nat I sa) ∧ (@Ne Nat I sd) := by
          simp only [off_cons] at off2 off
          exact ⟨Ne.symm off2.2.1, Ne.symm off2.2.2.1, Ne.symm off2.2.2.2.1, Ne.symm off2.2.2.2.2.1, Ne.symm off.1, Ne.symm off.2.1, Ne.symm off.2.2.1, Ne.symm off.2.2.2.1⟩
        obtain ⟨i1, i2, i3, i4, i5, i6, i7, i8⟩ := hI2
        k_steps
        unfold Hold
        rename_i FN NN
        refine note (rest := (I2, oI2) :: (I, oI) :: (sa, p3) :: (sd, p4) :: tl) (x := x') (dx := d') (ua := ua) (aa := aa) (ou := p1) (oa := p2) (d := st) (c1 := u2.uses) (c2 := u2.addr) B1 FN X1 (News.sub' NN (by k_extra "m_perm")) T1 (by rfl)
          (.tail _ (.tail _ (.tail _ (.tail _ mx)))) (.tail _ (.tail _ (.tail _ (.tail _ md)))) (by simp only [off_cons]; exact ⟨i1, i5, by omega, by omega, ofu⟩) (by simp only [off_cons]; exact ⟨i2, i6, by omega, by omega, ofa⟩) (Nat.ne_of_lt hn1) lou loa D1 D2
          (StepAt.mono (fun p hp => .tail _ (.tail _ (.tail _ (.tail _ hp)))) hS) hso (by omega) (by omega) ?nd ?nu ?nret
        case nd => ktr_room
        case nu => (have hcL9 := cLine_is; have huc := units_call (ktrTop dp un gd cn cs L a ccd cl outer) { pos := [.ref 158, .ref fx, .ref bal] }; dsimp only at huc ⊢; omega)
        case nret =>
          intro q1 q2 hz tz FZ NZ D1' D2'
          obtain ⟨hd3, hf3⟩ := D3
          obtain ⟨hd4, hf4⟩ := D4
          have l5 := usesOf_len u2.uses st
          have l6 := addrOf_len u2.addr st
          have l7 := hso.2.2.2.1
          clear FN NN D1 D2 F5 N6 hS
          by_cases hsl : st.kind = .slot
          · obtain ⟨h0, h1⟩ := hso.2.2.1 hsl
            obtain ⟨tm, rfl⟩ := hmo hsl
            have hU : stepU u2 st = ⟨usesOf u2.uses st, addrOf u2.addr st, kdfPut u2.slots st.dst st.more, bump u2.sets st.dst⟩ := by
              unfold stepU; rw [if_pos h0, if_pos (by rw [hsl]; rfl)]
            rw [hU]
            rw [hsl] at hsdx
            k_steps
            rename_i oS kvS FS NS hdS hfS tkk hqq oL kvL FL NL hdL hfL
            exact TurnEnd.intro (nw := (I, oI) :: (ua, q1) :: (aa, q2) :: (sa, oL) :: (sd, oS) :: tl) FL NL (by k_extra "m_perm") (off_cons.mpr ⟨(off_cons.mp off2).1, off4 (off_cons.mp off2).2⟩)
              ⟨⟨_, rfl, .mk D1' D2' ⟨hdL, hfL⟩ ⟨hdS, hfS⟩ (by dsimp only; omega) (by dsimp only; omega) (Nat.le_trans (kdfPut_len _ _ _) (by omega)) (Nat.le_trans (kdfPut_len _ _ _) (by omega))⟩, rfl, rfl, rfl⟩
          · have hks := Kind.ne_slot hsl
            have hU : stepU u2 st = ⟨usesOf u2.uses st, addrOf u2.addr st, u2.slots, if 0 ≤ st.dst then bump u2.sets st.dst else u2.sets⟩ := by
              unfold stepU; rw [if_neg (by rw [hks]; exact id)]
            rw [hU]
            generalize st.kind.str = ops at hks hsdx
            k_steps
            · rename_i a9 tk8 t8 h8 oS kvS FS NS hdS hfS tk9
              rw [if_pos (by omega)]
              exact TurnEnd.intro (nw := (I, oI) :: (ua, q1) :: (aa, q2) :: (sa, p3) :: (sd, oS) :: tl) FS NS (by k_extra "m_perm") (off_cons.mpr ⟨(off_cons.mp off2).1, off4 (off_cons.mp off2).2⟩)
                ⟨⟨_, rfl, .mk D1' D2' ⟨hd3, hf3⟩ ⟨hdS, hfS⟩ (by dsimp only; omega) (by dsimp only; omega) (by dsimp only; omega) (Nat.le_trans (kdfPut_len _ _ _) (by omega))⟩, rfl, rfl, rfl⟩
            · rename_i a9 tk9
              rw [if_neg (by omega)]
              exact TurnEnd.intro (nw := (I, oI) :: (ua, q1) :: (aa, q2) :: (sa, p3) :: (sd, p4) :: tl) FZ NZ (by k_extra "m_perm") (off_cons.mpr ⟨(off_cons.mp off2).1, off4 (off_cons.mp off2).2⟩)
                ⟨⟨_, rfl, .mk D1' D2' ⟨hd3, hf3⟩ ⟨hd4, hf4⟩ (by dsimp only; omega) (by dsimp only; omega) (by dsimp only; omega) (by dsimp only; omega)⟩, rfl, rfl, rfl⟩
      case doneC =>
        rintro m₂ nw h tk ⟨⟨nw', rfl, hJ⟩, hm1, hm2, hm3⟩ F5 N6
        clear kF N5 D1 D2 D3 D4 b1 b2 b3 b4 F4 N4
        rw [take_all2 hs2] at hJ
        have hsv3 : svs.length ≤ 3 := by rw [hs2.length]; exact hbo.1
        have hbu : blockU u b = noteU (b.steps.foldl stepU u) b.fin := rfl
        rw [hbu]
        generalize b.steps.foldl stepU u = u2 at hJ ⊢
        cases hJ with | @mk p1 p2 p3 p4 D1 D2 D3 D4 b1 b2 b3 b4
        obtain ⟨m₃, rfl⟩ := map3 hm1 hm2 hm3
        clear hm1 hm2 hm3
        have hI2 : (@Ne Nat I ua) ∧ (@Ne Nat I aa) := ⟨Ne.symm (off_cons.mp off).1, Ne.symm (off_cons.mp (off_cons.mp off).2).1⟩
        obtain ⟨i5, i6⟩ := hI2
        k_steps
        unfold Hold
        refine note (rest := (I, oI) :: (sa, p3) :: (sd, p4) :: tl) (x := x') (dx := d') (ua := ua) (aa := aa) (ou := p1) (oa := p2) (d := b.fin) (c1 := u2.uses) (c2 := u2.addr) B1 F5 X1 (News.sub' N6 (by k_extra "m_perm")) T1 (by rfl)
          (.tail _ (.tail _ (.tail _ mx))) (.tail _ (.tail _ (.tail _ md))) (by simp only [off_cons]; exact ⟨i5, by omega, by omega, ofu⟩) (by simp only [off_cons]; exact ⟨i6, by omega, by omega, ofa⟩) (Nat.ne_of_lt hn1) lou loa D1 D2
          (StepAt.mono (fun p hp => .tail _ (.tail _ (.tail _ hp))) hfin) hbo.2.2.1 (by omega) (by omega) ?md ?mu ?mret
        case md => ktr_room
        case mu => (have hcL9 := cLine_is; have huc := units_call (ktrTop dp un gd cn cs L a ccd cl outer) { pos := [.ref 158, .ref fx, .ref bal] }; dsimp only at huc ⊢; omega)
        case mret =>
          intro q1 q2 hz tz FZ NZ D1' D2'
          have l5 := usesOf_len u2.uses b.fin
          have l6 := addrOf_len u2.addr b.fin
          have l7 := hbo.2.2.1.2.2.2.1
          clear D1 D2 F5 N6
          k_steps
          exact TurnEnd.intro (nw := (ua, q1) :: (aa, q2) :: (sa, p3) :: (sd, p4) :: tl) FZ NZ (by k_extra "m_perm") (off4 off) ⟨.mk D1' D2' D3 D4 (by unfold noteU; dsimp only; omega) (by unfold noteU; dsimp only; omega) (by unfold noteU; dsimp only; omega) (by unfold noteU; dsimp only; omega), rfl, rfl⟩
    case doneB =>
      rintro m₁ nw h tk ⟨hJ2, hm1, hm2⟩ F4 N4
      rw [take_all2 hbv2] at hJ2
      have hUO := usage0_ok (ps := d.params) hbok
      change UsAt w ua aa sa sd tl (usage0 d.params bs) _ _ nw at hJ2
      generalize usage0 d.params bs = u at hJ2 hUO hret
      cases hJ2 with | @mk p1 p2 p3 p4 D1 D2 D3 D4 b1 b2 b3 b4
      obtain ⟨m₀, rfl⟩ := map2 hm1 hm2
      obtain ⟨hd3, hf3⟩ := D3
      obtain ⟨hd4, hf4⟩ := D4
      clear kF N3 hm1 hm2 hJ
      k_steps
      unfold Hold
      rename_i kv3 kv4 SB svs2 ns2 sn2 hqz tqz FS NS hI2 hpm lSB
      have hA2 := ints_all2 hI2
      have hnd : ns2.Nodup := hpm.nodup_iff.mpr hUO.2
      obtain ⟨ls1, ls2, ls3, ls4, ls5⟩ := lSB
      refine iter_list (l := SB) (vs := svs2) (n₀ := sn2) (fun i m₁ nw => (∃ o3', nw = (SB, listOf (List.toArray svs2) sn2) :: (ua, p1) :: (aa, p2) :: (sa, o3') :: (sd, p4) :: tl ∧ DictAt w o3' ((ns2.take i).foldl (delU u.sets) u.slots)) ∧ m₁ (Str.ofString "self") = some (.ref x') ∧ m₁ (Str.ofString "sets") = some (.ref sd)) (by rfl) FS NS ?hmD ?hjD ?turnD ?doneD
      case hmD => rintro i m₁ nw ⟨⟨o3', rfl, _⟩, _⟩; exact .head _
      case hjD => exact ⟨⟨_, rfl, ⟨hd3, hf3⟩⟩, rfl, rfl⟩
      case turnD =>
        rintro i v m₁ nw s₁ I oI hv ⟨⟨o3', rfl, hD3⟩, hm1, hm2⟩ off F5 N5
        obtain ⟨r, hr, hR⟩ := hA2.get hv
        obtain ⟨tr⟩ := hR
        rw [foldl_take _ _ hr]
        have hk3 : kdfHas u.slots r = true := has_mem.mpr (hpm.mem_iff.mp (List.mem_of_getElem? hr))
        have hh1 : kdfHas u.sets r = true := hUO.1 r hk3
        have hh2 : kdfHas ((ns2.take i).foldl (delU u.sets) u.slots) r = true := by rw [delU_has _ _ _ (not_in_take hnd hr)]; exact hk3
        have hln := delU_len (sets := u.sets) (ns2.take i) u.slots
        generalize (ns2.take i).foldl (delU u.sets) u.slots = c at hD3 hh2 hln ⊢
        obtain ⟨hdC, hfC⟩ := hD3
        obtain ⟨m₂, rfl⟩ := map2 hm1 hm2
        have hIs : (@Ne Nat I SB) ∧ (@Ne Nat I ua) ∧ (@Ne Nat I aa) ∧ (@Ne Nat I sa) ∧ (@Ne Nat I sd) := by
          simp only [off_cons] at off
          exact ⟨Ne.symm off.1, Ne.symm off.2.1, Ne.symm off.2.2.1, Ne.symm off.2.2.2.1, Ne.symm off.2.2.2.2.1⟩
        obtain ⟨i0, i1, i2, i3, i4⟩ := hIs
        clear FS NS hm1 hm2 hret hd3 hf3
        k_steps
        · rename_i a9 hqq oN kvN FN NN hdN hfN
          exact TurnEnd.intro (nw := (SB, listOf (List.toArray svs2) sn2) :: (ua, p1) :: (aa, p2) :: (sa, oN) :: (sd, p4) :: tl) FN NN (fun p hp => hp) (off_cons.mpr ⟨(off_cons.mp off).1, off4 (off_cons.mp off).2⟩)
            ⟨⟨_, rfl, by unfold delU; rw [if_neg a9]; exact ⟨hdN, hfN⟩⟩, rfl, rfl⟩
        · rename_i FN NN tk8 t8 a9
          exact TurnEnd.intro (nw := (SB, listOf (List.toArray svs2) sn2) :: (ua, p1) :: (aa, p2) :: (sa, o3') :: (sd, p4) :: tl) FN NN (fun p hp => hp) off
            ⟨⟨_, rfl, by unfold delU; rw [if_pos a9]; exact ⟨hdC, hfC⟩⟩, rfl, rfl⟩
      case doneD =>
        rintro m₁ nw h tk ⟨⟨o3', rfl, hD3⟩, hm1, hm2⟩ F5 N5
        rw [take_all2 hA2] at hD3
        clear FS NS hm1 hm2
        k_steps
        rename_i kF kN Tc kX
        rw [htl] at kN
        exact hret x' d' ua aa sa p1 p2 o3' k1 k2 k3 u1 u2 u3 ns2 _ _ kF (News.sub' kN (by k_extra "m_perm")) lou loa los D1 D2 hpm hD3
end
end
section
section
inductive UsageAt (w : World) (rest : Led) (x : Addr) (c1 c2 c3 : List (Int × Int)) : Prop
  | mk {dx ua aa sa : Addr} {o1 o2 o3 : Obj} {h1 h2 h3 : Int} {t1 t2 t3 : Tok} (hx : (x, instObj 158 dx) ∈ rest) (hd : (dx, usageDict h1 h2 h3 t1 t2 t3 (.ref ua) (.ref aa) (.ref sa)) ∈ rest) (m1 : (ua, o1) ∈ rest) (m2 : (aa, o2) ∈ rest) (m3 : (sa, o3) ∈ rest)
      (lu : (ua == sysModules) = false) (la : (aa == sysModules) = false) (ls : (sa == sysModules) = false) (D1 : DictAt w o1 c1) (D2 : DictAt w o2 c2) (D3 : DictAt w o3 c3) : UsageAt w rest x c1 c2 c3
theorem UsageAt.mono {w : World} {rest rest' : Led} {x : Addr} {c1 c2 c3 : List (Int × Int)} (h : UsageAt w rest x c1 c2 c3) (hs : ∀ p ∈ rest, p ∈ rest') : UsageAt w rest' x c1 c2 c3 := by
  cases h with | mk a b c d e l1 l2 l3 f g i => exact .mk (hs _ a) (hs _ b) (hs _ c) (hs _ d) (hs _ e) l1 l2 l3 f g i
def onlyB (c1 c2 c3 : List (Int × Int)) (k : Int) : Bool := kdfHas c3 k && decide (kdfLook c1 k 0 = kdfLook c2 k 0)
theorem only_addressed (w : World) (x : Addr) (c1 c2 c3 : List (Int × Int)) (k : Int) (t : Tok) : ReadSpec w 155 2 (fun news => UsageAt w news x c1 c2 c3) [.ref x, .int k t] (fun r => r = .bool (onlyB c1 c2 c3 k)) := by
  w_top off
  k_with_none
  k_with "m_rst" => first | (with_reducible apply Rst.nil) | (with_reducible apply Rst.cons; k_extra "m_rst")
  k_with "m_pick" => first | (with_reducible apply Pick.head; k_extra "m_rst") | (with_reducible apply Pick.tail; k_extra "m_pick")
  k_with "m_draw" => (
  (case N => k_asm); (case P => k_extra "m_pick"); (case B => k_asm); (case F => k_asm); (case X => k_asm);
  (case off => ((try simp only [List.nil_append, List.cons_append]); k_all)); (case T => k_asm); (case k => first | exact rfl | assumption); (case W => assumption); (case I => assumption);
  (case b => omega); (case d => ktr_room); (case u => ktr_units))
  k_with "m_al" => first | assumption | exact And.right (by assumption) | exact And.right (And.right (by assumption)) | exact And.right (And.right (And.right (by assumption))) | exact And.right (And.right (And.right (And.right (by assumption)))) | exact And.right (And.right (And.right (And.right (And.right (by assumption))))) | exact And.right (And.right (And.right (And.right (And.right (And.right (by assumption)))))) | exact And.right (And.right (And.right (And.right (And.right (And.right (And.right (by assumption))))))) | exact And.right (And.right (And.right (And.right (And.right (And.right (And.right (And.right (by assumption)))))))) | exact And.right (And.right (And.right (And.right (And.right (And.right (And.right (And.right (And.right (by assumption))))))))) | exact And.right (And.right (And.right (And.right (And.right (And.right (And.right (And.right (And.right (And.right (by assumption)))))))))) | exact And.right (And.right (And.right (And.right (And.right (And.right (And.right (And.right (And.right (And.right (And.right (by assumption))))))))))) | exact And.right (And.right (And.right (And.right (And.right (And.right (And.right (And.right (And.right (And.right (And.right (And.right (by assumption)))))))))))) | exact And.right (And.right (And.right (And.right (And.right (And.right (And.right (And.right (And.right (And.right (And.right (And.right (And.right (by assumption))))))))))))) | exact And.right (And.right (And.right (And.right (And.right (And.right (And.right (And.right (And.right (And.right (And.right (And.right (And.right (And.right (by assumption)))))))))))))) | exact And.right (And.right (And.right (And.right (And.right (And.right (And.right (And.right (And.right (And.right (And.right (And.right (And.right (And.right (And.right (by assumption))))))))))))))) | exact And.right (And.right (And.right (And.right (And.right (And.right (And.right (And.right (And.right (And.right (And.right (And.right (And.right (And.right (And.right (And.right (by assumption)))))))))))))))) | exact And.right (And.right (And.right (And.right (And.right (And.right (And.right (And.right (And.right (And.right (And.right (And.right (And.right (And.right (And.right (And.right (And.right (by assumption))))))))))))))))) | exact And.right (And.right (And.right (And.right (And.right (And.right (And.right (And.right (And.right (And.right (And.right (And.right (And.right (And.right (And.right (And.right (And.right (And.right (by assumption)))))))))))))))))) | exact AllLt.up (by assumption) (by k_extra "m_al")
  k_with "m_cells" => first | k_extra "m_cellsG" | (simp only [List.map_append, List.map_cons, List.cons_append, List.nil_append, List.mem_cons, List.map_nil, List.mem_append]; intro x hx; first | assumption | (rcases hx with hx | hx <;> simp only [hx, true_or, or_true]))
  k_with "m_grow" => first | (with_reducible exact Grow.refl) | (with_reducible refine Grow.add ?_ ?_; k_extra "m_grow"; exact cellsNe (by first | k_extra "m_lt" | omega) (by k_extra "m_al")) | (with_reducible refine Grow.transR (by assumption) ?_ ?_; k_extra "m_cells"; k_extra "m_grow")
  k_with "m_cell1" => (simp only [List.map_append, List.map_cons, List.cons_append, List.nil_append, List.mem_cons, List.map_nil, List.mem_append, true_or, or_true]; done)
  k_with "m_mem" => first | exact List.Mem.head _ | (refine List.Mem.tail _ ?_; k_extra "m_mem")
  k_with "m_sub" => (intro p hp; simp only [List.mem_cons, hp, or_true])
  k_with "m_ctx" => ((case N => k_asm); (case B => k_asm); (case F => k_asm); (case X => k_asm); (case T => k_asm); (case k => first | exact rfl | assumption); (case d => ktr_room); (case u => ktr_units))
  k_with "m_subR" => (intro p hp; simp only [List.mem_cons, List.mem_append, hp, or_true])
  k_with "m_memT" => first | assumption | exact List.Mem.head _ | (refine List.Mem.tail _ ?_; k_extra "m_memT")
  k_with "m_mq" => first | (with_reducible exact List.mem_cons_self) | ((with_reducible refine List.mem_cons_of_mem _ ?_); k_extra "m_mq") | ((with_reducible refine List.mem_append_left _ ?_); k_extra "m_mq") | ((with_reducible refine List.mem_append_right _ ?_); k_extra "m_mq") | (with_reducible assumption)
  k_with "m_sq" => first | (with_reducible exact fa_self) | ((with_reducible refine fa_tail ?_); k_extra "m_sq") | ((with_reducible refine fa_left ?_); k_extra "m_sq") | ((with_reducible refine fa_right ?_); k_extra "m_sq") | (with_reducible assumption)
  k_with "m_perm" => ((repeat' (with_reducible first | refine fa_cons ?_ ?_ | refine fa_app ?_ ?_ | exact fa_nil)); all_goals (first | k_extra "m_mq" | k_extra "m_sq"))
  k_with "m_cellsG" => ((try simp only [List.cons_append, List.nil_append, List.map_cons, List.map_append]); k_extra "m_perm")
  k_with "exec Assign cons ListComp" => walk_at "exec Assign"
  k_with "m_lt" => first | (with_reducible exact Nat.lt_succ_self _) | ((with_reducible refine Nat.lt_succ_of_lt ?_); k_extra "m_lt") | (with_reducible assumption) | (with_reducible exact And.left (by assumption)) | (with_reducible exact And.left (And.right (by assumption))) | (with_reducible exact And.left (And.right (And.right (by assumption)))) | (with_reducible exact And.left (And.right (And.right (And.right (by assumption))))) | (with_reducible exact And.left (And.right (And.right (And.right (And.right (by assumption)))))) | (with_reducible exact And.left (And.right (And.right (And.right (And.right (And.right (by assumption))))))) | (with_reducible exact And.left (And.right (And.right (And.right (And.right (And.right (And.right (by assumption)))))))) | (with_reducible exact And.left (And.right (And.right (And.right (And.right (And.right (And.right (And.right (by assumption))))))))) | (with_reducible exact And.left (And.right (And.right (And.right (And.right (And.right (And.right (And.right (And.right (by assumption)))))))))) | (with_reducible exact And.right (by assumption)) | (with_reducible exact And.right (And.right (by assumption))) | (with_reducible exact And.right (And.right (And.right (by assumption)))) | (with_reducible exact And.right (And.right (And.right (And.right (by assumption))))) | ((with_reducible refine Nat.lt_trans ?_ (by assumption)); k_extra "m_lt")
  k_with "m_ne" => first | (with_reducible assumption) | (with_reducible exact Ne.symm (by assumption)) | (with_reducible exact Ne.symm (And.left (by assumption))) | (with_reducible exact Ne.symm (And.left (And.right (by assumption)))) | (with_reducible exact And.left (by assumption)) | (with_reducible exact And.left (And.right (by assumption))) | exact Nat.ne_of_gt (by k_extra "m_lt") | exact Nat.ne_of_lt (by k_extra "m_lt") | omega
  k_with "m_rm" => first | (with_reducible exact room1 (by assumption) (Nat.le_of_ble_eq_true rfl)) | (with_reducible exact room2 (by assumption) (Nat.le_of_ble_eq_true rfl)) | (with_reducible exact room3 (by assumption) (Nat.le_of_ble_eq_true rfl)) | ((simp only [depth_under_make, depth_under_kw, depth_in1, depth_deeper, depth_caller, units_in1, units_deeper, Around.mark_units, units_caller]); (try dsimp only [ktrTop]); first | (with_reducible exact room1 (by assumption) (Nat.le_of_ble_eq_true rfl)) | (with_reducible exact room2 (by assumption) (Nat.le_of_ble_eq_true rfl)) | (with_reducible exact room3 (by assumption) (Nat.le_of_ble_eq_true rfl)))
  k_with "call builtin:dict.get" => (k_here; k_dflt (refine' kdf_get2 (by exact tab_of (by k_asm) (by k_mem) (by assumption) (by assumption) (by assumption)) ?_); intro _)
  k_with "compareOp In" => (k_here; (with_reducible show wpAny _ _ (compareOp CmpOp.In (Value.int _ _) (Value.ref _)) _ _ _); k_dflt (refine' kdf_in (by exact tab_of (by k_asm) (by k_mem) (by assumption) (by assumption) (by assumption)) ?_))
  (have kf : PySem.Challenge.rw_nm0006_01.Holds → Mine.hd.heap_39 w.params = Mine.hd.heap_39 w.params := by k_fill; intro; rfl); clear kf
  intro dp un gd cn cs a' ccd cl outer A₀ base h₀ L m mean mg mb news s Q E B F X N T hk hpre hd hu hret
  obtain @⟨dx, ua, aa, sa, o1, o2, o3, h1, h2, h3, t1, t2, t3, hx, hdx, m1, m2, m3, lu, la, ls, ⟨hd1, hf1⟩, ⟨hd2, hf2⟩, ⟨hd3, hf3⟩⟩ := hpre
  refine wpAny_call ?_
  k_dflt ktr_enter
  k_steps
  · rename_i a9 t8 t9 kF kN Tc kX
    exact hret _ _ _ kF kN (by unfold onlyB; rw [a9, Bool.true_and]; rfl)
  · rename_i a9 kF kN Tc kX
    exact hret _ _ _ kF kN (by unfold onlyB; rw [a9]; rfl)
end
end
section
section
theorem look_put (c : List (Int × Int)) (i v k d : Int) : kdfLook (kdfPut c i v) k d = if i = k then v else kdfLook c k d := by
  induction c with
  | nil =>
    unfold kdfPut kdfLook
    by_cases h : i = k <;> simp [h]
  | cons p c ih =>
    unfold kdfPut kdfLook at ih ⊢
    by_cases hp : p.1 = i
    · have e : ((p :: c).any fun q => decide (q.1 = i)) = true := by simp [hp]
      rw [if_pos e]
      by_cases hk : i = k
      · subst hk
        simp [hp]
      · rw [if_neg hk]
        have h1 : p.1 ≠ k := fun e2 => hk (hp.symm.trans e2)
        have h2 : (if decide (p.1 = i) then (p.1, v) else p).1 = p.1 := by split <;> rfl
        rw [List.map_cons, List.find?_cons, h2, List.find?_cons]
        have h3 : decide (p.1 = k) = false := decide_eq_false h1
        rw [h3]
        dsimp only
        by_cases ha : (c.any fun q => decide (q.1 = i)) = true
        · rw [if_pos ha, if_neg hk] at ih
          exact ih
        · have hid : (c.map fun q => if decide (q.1 = i) then (q.1, v) else q) = c := by
            rw [List.map_congr_left (g := id) ?_, List.map_id]
            intro q hq
            have : ¬ q.1 = i := fun e3 => ha (List.any_eq_true.mpr ⟨q, hq, decide_eq_true e3⟩)
            simp [this]
          rw [hid]
    · have e : ((p :: c).any fun q => decide (q.1 = i)) = c.any fun q => decide (q.1 = i) := by simp [hp]
      rw [e]
      by_cases hk : p.1 = k
      · have hik : i ≠ k := fun e2 => hp (hk.trans e2.symm)
        rw [if_neg hik]
        split <;> simp [hk, Ne.symm hik]
      · split at ih <;> rename_i ha
        · rw [if_pos ha]
          simp only [List.map_cons, decide_eq_false hp, Bool.false_eq_true, if_false, List.find?_cons, decide_eq_false hk]
          exact ih
        · rw [if_neg ha]
          simp only [List.cons_append, List.find?_cons, decide_eq_false hk]
          exact ih
/-- a dict and a list of six say the same -/
def Rel (c : List (Int × Int)) (l : List Int) : Prop := l.length = 6 ∧ ∀ k : Nat, k < 6 → kdfLook c k 0 = l.getD k 0
theorem Rel.put {c : List (Int × Int)} {l : List Int} (h : Rel c l) {i v : Int} (h0 : 0 ≤ i) (h6 : i < 6) : Rel (kdfPut c i v) (l.set i.toNat v) := by
  refine ⟨by rw [List.length_set]; exact h.1, fun k hk => ?_⟩
  rw [look_put]
  have hl := h.1
  by_cases e : i = k
  · subst e
    rw [if_pos rfl, List.getD_eq_getElem?_getD, List.getElem?_set]
    simp [hl, hk]
  · rw [if_neg e, h.2 k hk, List.getD_eq_getElem?_getD, List.getD_eq_getElem?_getD, List.getElem?_set]
    have : ¬ i.toNat = k := by omega
    rw [if_neg this]
theorem Rel.look {c : List (Int × Int)} {l : List Int} (h : Rel c l) {i : Int} (h0 : 0 ≤ i) (h6 : i < 6) : kdfLook c i 0 = l.getD i.toNat 0 := by
  have := h.2 i.toNat (by omega)
  rwa [Int.toNat_of_nonneg h0] at this
def bumpL (l : List Int) (i : Int) : List Int := l.set i.toNat (l.getD i.toNat 0 + 1)
structure CntD where
  u : List Int
  r : List Int
  s : List Int
  p : List Int
def cntOpd (l : List Int) : Opd → List Int
  | .r i => bumpL l i
  | .k _ => l
def cntAcc (l : List Int) : List Opd → List Int
  | .r i :: _ => bumpL l i
  | _ => l
def cntStep (c : CntD) (d : StepD) : CntD :=
  { u := d.args.foldl cntOpd c.u
    r := (match d.kind with | .load => cntAcc c.r d.args | .store => cntAcc c.r d.args | _ => c.r)
    s := if 0 ≤ d.dst then bumpL c.s d.dst else c.s
    p := if d.kind.str = Str.ofString "slot" then c.p.set d.dst.toNat d.more else c.p }
def cntBlock (c : CntD) (b : BlockD) : CntD := (b.steps ++ [b.fin]).foldl cntStep c
def counts0 (bs : List BlockD) : CntD := bs.foldl cntBlock ⟨List.replicate 6 0, List.replicate 6 0, List.replicate 6 0, List.replicate 6 (-1)⟩
theorem Rel.bump {c : List (Int × Int)} {l : List Int} (h : Rel c l) {i : Int} (h0 : 0 ≤ i) (h6 : i < 6) : Rel (bump c i) (bumpL l i) := by
  unfold Mine.bump bumpL
  rw [h.look h0 h6]
  exact h.put h0 h6
/-- an operand's register is one of the six -/
def OpdOk : Opd → Prop
  | .r i => 0 ≤ i ∧ i < 6
  | .k _ => True
theorem OpdAt.ok {rest : Led} {v : Value} {d : Opd} (h : OpdAt rest v d) : OpdOk d := by
  cases h with
  | r a b c => exact ⟨a, b⟩
  | k c => trivial
theorem Rel.opds : ∀ {ds : List Opd} {c : List (Int × Int)} {l : List Int}, Rel c l → (∀ d ∈ ds, OpdOk d) → Rel (ds.foldl useOpd c) (ds.foldl cntOpd l)
  | [], _, _, h, _ => h
  | .r i :: ds, c, l, h, ho => Rel.opds (ds := ds) (h.bump (ho _ (.head _)).1 (ho _ (.head _)).2) fun d hd => ho d (.tail _ hd)
  | .k i :: ds, c, l, h, ho => Rel.opds (ds := ds) h fun d hd => ho d (.tail _ hd)
theorem Rel.acc {ds : List Opd} {c : List (Int × Int)} {l : List Int} (h : Rel c l) (ho : ∀ d ∈ ds, OpdOk d) : Rel (accOpd c ds) (cntAcc l ds) := by
  cases ds with
  | nil => exact h
  | cons d r => cases d with
    | r i => exact h.bump (ho _ (.head _)).1 (ho _ (.head _)).2
    | k i => exact h
end
end
section
section
theorem look_none {c : List (Int × Int)} {k d : Int} (h : kdfHas c k = false) : kdfLook c k d = d := by
  unfold kdfHas at h
  unfold kdfLook
  rw [List.find?_eq_none.mpr fun p hp => by
    have := List.any_eq_false.mp h p hp
    exact this]
  rfl
theorem look_del (c : List (Int × Int)) (k j d : Int) : kdfLook (kdyDel c k) j d = if k = j then d else kdfLook c j d := by
  by_cases e : k = j
  · subst e
    rw [if_pos rfl]
    refine look_none ?_
    unfold kdfHas kdyDel
    rw [List.any_filter]
    refine List.any_eq_false.mpr fun p _ => ?_
    simp
  · rw [if_neg e]
    unfold kdfLook kdyDel
    rw [List.find?_filter]
    have h2 : (fun p : Int × Int => decide ((!decide (p.1 = k)) = true ∧ decide (p.1 = j) = true)) = fun p : Int × Int => decide (p.1 = j) := by
      funext p
      by_cases hj : p.1 = j
      · have : ¬ p.1 = k := fun h3 => e (h3.symm.trans hj)
        simp [hj, Ne.symm e]
      · simp [hj]
    rw [h2]
theorem has_del (c : List (Int × Int)) (k j : Int) : kdfHas (kdyDel c k) j = (!decide (k = j) && kdfHas c j) := by
  by_cases e : k = j
  · subst e
    unfold kdfHas kdyDel
    rw [List.any_filter]
    simp
  · rw [del_has e]
    simp [e]
theorem look_delU {sets : List (Int × Int)} {j d : Int} : ∀ (l : List Int) (c : List (Int × Int)), kdfLook (l.foldl (delU sets) c) j d = if j ∈ l ∧ kdfLook sets j 0 ≠ 1 then d else kdfLook c j d
  | [], c => by simp
  | r :: l, c => by
    rw [List.foldl_cons, look_delU l]
    unfold delU
    by_cases hs : kdfLook sets j 0 = 1
    · rw [if_neg (c := j ∈ l ∧ kdfLook sets j 0 ≠ 1) fun h => h.2 hs, if_neg (c := j ∈ r :: l ∧ kdfLook sets j 0 ≠ 1) fun h => h.2 hs]
      split
      · rfl
      · rename_i h1
        rw [look_del, if_neg]
        rintro rfl; exact h1 hs
    · by_cases hr : r = j
      · subst hr
        rw [if_neg hs, look_del, if_pos rfl, if_pos (c := r ∈ r :: l ∧ kdfLook sets r 0 ≠ 1) ⟨.head _, hs⟩]
        split <;> rfl
      · have e : kdfLook (if kdfLook sets r 0 = 1 then c else kdyDel c r) j d = kdfLook c j d := by
          split
          · rfl
          · rw [look_del, if_neg hr]
        rw [e]
        have : (j ∈ r :: l ∧ kdfLook sets j 0 ≠ 1) ↔ (j ∈ l ∧ kdfLook sets j 0 ≠ 1) := by
          rw [List.mem_cons]
          exact ⟨fun h => ⟨h.1.resolve_left (Ne.symm hr), h.2⟩, fun h => ⟨.inr h.1, h.2⟩⟩
        simp only [this]
theorem has_delU {sets : List (Int × Int)} {j : Int} : ∀ (l : List Int) (c : List (Int × Int)), kdfHas (l.foldl (delU sets) c) j = (kdfHas c j && !decide (j ∈ l ∧ kdfLook sets j 0 ≠ 1))
  | [], c => by simp
  | r :: l, c => by
    rw [List.foldl_cons, has_delU l]
    unfold delU
    by_cases hs : kdfLook sets j 0 = 1
    · rw [decide_eq_false fun h => h.2 hs, decide_eq_false fun h => h.2 hs]
      split
      · rfl
      · rename_i h1
        rw [has_del]
        have : ¬ r = j := by rintro rfl; exact h1 hs
        simp [this]
    · by_cases hr : r = j
      · subst hr
        rw [if_neg hs, has_del]
        simp [hs]
      · have e : kdfHas (if kdfLook sets r 0 = 1 then c else kdyDel c r) j = kdfHas c j := by
          split
          · rfl
          · rw [has_del]; simp [hr]
        rw [e]
        have : (j ∈ r :: l ∧ kdfLook sets j 0 ≠ 1) ↔ (j ∈ l ∧ kdfLook sets j 0 ≠ 1) := by
          rw [List.mem_cons]
          exact ⟨fun h => ⟨h.1.resolve_left (Ne.symm hr), h.2⟩, fun h => ⟨.inr h.1, h.2⟩⟩
        simp only [this]
structure Inv (e : Nat → Int) (u : UsD) (c : CntD) : Prop where
  iu : Rel u.uses c.u
  ir : Rel u.addr c.r
  ls : c.s.length = 6
  is : ∀ k : Nat, k < 6 → kdfLook u.sets k 0 = c.s.getD k 0 + e k
  lp : c.p.length = 6
  ip : ∀ k : Nat, k < 6 → kdfLook u.slots k (-1) = c.p.getD k 0
  ih : ∀ k, kdfHas u.slots k = decide (0 ≤ kdfLook u.slots k (-1))
theorem getD_set (l : List Int) (i k : Nat) (v : Int) (hi : i < l.length) : (l.set i v).getD k 0 = if i = k then v else l.getD k 0 := by
  rw [List.getD_eq_getElem?_getD, List.getD_eq_getElem?_getD, List.getElem?_set]
  split
  · try rw [if_pos hi]
    rfl
  · rfl
theorem sets_bump {e : Nat → Int} {c : List (Int × Int)} {l : List Int} (hl : l.length = 6) (h : ∀ k : Nat, k < 6 → kdfLook c k 0 = l.getD k 0 + e k) {i : Int} (h0 : 0 ≤ i) (h6 : i < 6) :
    ∀ k : Nat, k < 6 → kdfLook (bump c i) k 0 = (bumpL l i).getD k 0 + e k := by
  intro k hk
  unfold Mine.bump bumpL
  rw [look_put, getD_set _ _ _ _ (by omega)]
  by_cases hik : i = k
  · subst hik
    rw [if_pos rfl, h k hk]
    simp only [Int.toNat_natCast, if_true]
    omega
  · have : ¬ i.toNat = k := by omega
    rw [if_neg hik, if_neg this, h k hk]
theorem slot_str {k : Kind} : k.str = Str.ofString "slot" ↔ k = .slot := by
  cases k <;> first | exact ⟨fun _ => rfl, fun _ => rfl⟩ | exact ⟨fun h => absurd h (by decide +kernel), fun h => nomatch h⟩
theorem Inv.step {e : Nat → Int} {u : UsD} {c : CntD} (I : Inv e u c) {d : StepD} (hs : StepOk d) (ho : ∀ o ∈ d.args, OpdOk o) : Inv e (stepU u d) (cntStep c d) := by
  have h6 := hs.1.2
  refine ⟨?_, ?_, ?_, ?_, ?_, ?_, ?_⟩
  · exact I.iu.opds ho
  · unfold stepU cntStep addrOf
    cases d.kind <;> first | exact I.ir.acc ho | exact I.ir
  · unfold cntStep
    dsimp only
    split
    · exact List.length_set.trans I.ls
    · exact I.ls
  · unfold stepU cntStep
    dsimp only
    split
    · exact sets_bump I.ls I.is (by assumption) h6
    · exact I.is
  · unfold cntStep
    dsimp only
    split
    · exact List.length_set.trans I.lp
    · exact I.lp
  · unfold stepU cntStep
    dsimp only
    split
    · rename_i hk
      have h0 := (hs.2.2.1 (slot_str.mp hk)).1
      intro k hk6
      have hl := I.lp
      rw [look_put, getD_set _ _ _ _ (by omega)]
      by_cases hik : d.dst = k
      · have : d.dst.toNat = k := by omega
        rw [if_pos hik, if_pos this]
      · have : ¬ d.dst.toNat = k := by omega
        rw [if_neg hik, if_neg this, I.ip k hk6]
    · exact I.ip
  · unfold stepU
    dsimp only
    split
    · rename_i hk
      have h0 := (hs.2.2.1 (slot_str.mp hk)).2
      intro k
      rw [has_put, look_put, I.ih k]
      by_cases hik : d.dst = k
      · rw [if_pos hik, decide_eq_true hik, decide_eq_true h0]; rfl
      · rw [if_neg hik, decide_eq_false hik]; rfl
    · exact I.ih
theorem Inv.fin {e : Nat → Int} {u : UsD} {c : CntD} (I : Inv e u c) {d : StepD} (hs : StepOk d) (hg : d.kind = .give) (ho : ∀ o ∈ d.args, OpdOk o) : Inv e (noteU u d) (cntStep c d) := by
  have hd := hs.2.2.2.2 hg
  have e1 : cntStep c d = ⟨d.args.foldl cntOpd c.u, c.r, c.s, c.p⟩ := by
    have h1 : ¬ (0 : Int) ≤ d.dst := by omega
    have h2 : ¬ d.kind.str = Str.ofString "slot" := fun h => by rw [slot_str.mp h] at hg; cases hg
    unfold cntStep
    rw [if_neg h1, if_neg h2, hg]
  have e2 : noteU u d = ⟨d.args.foldl useOpd u.uses, u.addr, u.slots, u.sets⟩ := by
    unfold noteU usesOf addrOf
    rw [hg]
  rw [e1, e2]
  exact ⟨I.iu.opds ho, I.ir, I.ls, I.is, I.lp, I.ip, I.ih⟩
def ArgsOk (b : BlockD) : Prop := ∀ st ∈ b.steps ++ [b.fin], ∀ o ∈ st.args, OpdOk o
theorem Inv.block {e : Nat → Int} {n : Nat} {b : BlockD} (hb : BlockOk n b) (ha : ArgsOk b) {u : UsD} {c : CntD} (I : Inv e u c) : Inv e (blockU u b) (cntBlock c b) := by
  unfold blockU cntBlock
  rw [List.foldl_append]
  have hst : ∀ (l : List StepD) (u : UsD) (c : CntD), (∀ st ∈ l, StepOk st ∧ ∀ o ∈ st.args, OpdOk o) → Inv e u c → Inv e (l.foldl stepU u) (l.foldl cntStep c) := by
    intro l
    induction l with
    | nil => intro u c _ h; exact h
    | cons st r ih => intro u c hl h; exact ih _ _ (fun x hx => hl x (.tail _ hx)) (h.step (hl st (.head _)).1 (hl st (.head _)).2)
  exact (hst b.steps u c (fun st hs => ⟨(hb.2.1 st hs).1, ha st (List.mem_append_left _ hs)⟩) I).fin hb.2.2.1 hb.2.2.2 (ha _ (List.mem_append_right _ (.head _)))
def isIn (ps : List Int) (k : Nat) : Int := if (k : Int) ∈ ps then 1 else 0
theorem look_params {k : Int} : ∀ (ps : List Int) (c : List (Int × Int)), kdfLook (ps.foldl paramU c) k 0 = if k ∈ ps then 1 else kdfLook c k 0
  | [], c => by simp
  | p :: ps, c => by
    rw [List.foldl_cons, look_params ps]
    unfold paramU
    rw [look_put]
    by_cases h1 : k ∈ ps
    · rw [if_pos h1, if_pos (.tail _ h1)]
    · rw [if_neg h1]
      by_cases h2 : p = k
      · subst h2; rw [if_pos rfl, if_pos (.head _)]
      · rw [if_neg h2, if_neg]
        rw [List.mem_cons]
        rintro (h | h)
        · exact h2 h.symm
        · exact h1 h
theorem inv_usage {ps : List Int} {bs : List BlockD} {n : Nat} (hb : ∀ b ∈ bs, BlockOk n b) (ha : ∀ b ∈ bs, ArgsOk b) : Inv (isIn ps) (usage0 ps bs) (counts0 bs) := by
  have hbl : ∀ (l : List BlockD) (u : UsD) (c : CntD), (∀ b ∈ l, BlockOk n b ∧ ArgsOk b) → Inv (isIn ps) u c → Inv (isIn ps) (l.foldl blockU u) (l.foldl cntBlock c) := by
    intro l
    induction l with
    | nil => intro u c _ h; exact h
    | cons b r ih => intro u c hl h; exact ih _ _ (fun x hx => hl x (.tail _ hx)) (h.block (hl b (.head _)).1 (hl b (.head _)).2)
  have rep : ∀ (z : Int) (k : Nat), k < 6 → (List.replicate 6 z).getD k 0 = z := by
    intro z k hk
    rw [List.getD_eq_getElem?_getD, List.getElem?_replicate, if_pos hk]; rfl
  have nl : ∀ k d, kdfLook [] k d = d := fun k d => rfl
  refine hbl bs _ _ (fun b h => ⟨hb b h, ha b h⟩) ⟨⟨rfl, fun k hk => (rep 0 k hk).symm⟩, ⟨rfl, fun k hk => (rep 0 k hk).symm⟩, rfl, fun k hk => ?_, rfl, fun k hk => (rep (-1) k hk).symm, fun k => rfl⟩
  rw [look_params, rep 0 k hk]
  unfold isIn
  rw [nl, Int.zero_add]
/-- what the walk of _law_usage_right needs: the numbers of one register -/
theorem usage_law {ps : List Int} {bs : List BlockD} {n : Nat} {ks : List Int} (hb : ∀ b ∈ bs, BlockOk n b) (ha : ∀ b ∈ bs, ArgsOk b) (hk : ks.Perm ((usage0 ps bs).slots.map (·.1))) {k : Nat} (h6 : k < 6) :
    kdfLook (usage0 ps bs).uses k 0 = (counts0 bs).u.getD k 0 ∧ kdfLook (usage0 ps bs).addr k 0 = (counts0 bs).r.getD k 0 ∧
    (kdfLook (ks.foldl (delU (usage0 ps bs).sets) (usage0 ps bs).slots) k (-1) = if (counts0 bs).s.getD k 0 + isIn ps k = 1 then (counts0 bs).p.getD k 0 else -1) ∧
    (kdfHas (ks.foldl (delU (usage0 ps bs).sets) (usage0 ps bs).slots) k = decide (0 ≤ if (counts0 bs).s.getD k 0 + isIn ps k = 1 then (counts0 bs).p.getD k 0 else -1)) := by
  have I := inv_usage (ps := ps) hb ha
  have hm : (k : Int) ∈ ks ↔ kdfHas (usage0 ps bs).slots k = true := hk.mem_iff.trans has_mem.symm
  refine ⟨I.iu.2 k h6, I.ir.2 k h6, ?_, ?_⟩
  · rw [look_delU]
    simp only [hm, I.is k h6]
    by_cases h1 : (counts0 bs).s.getD k 0 + isIn ps k = 1
    · rw [if_pos h1, if_neg fun h => h.2 h1, I.ip k h6]
    · rw [if_neg h1]
      split
      · rfl
      · rename_i h2
        refine look_none ?_
        cases hh : kdfHas (usage0 ps bs).slots k
        · rfl
        · exact absurd ⟨hh, h1⟩ h2
  · rw [has_delU]
    simp only [hm, I.is k h6, I.ih k, I.ip k h6]
    by_cases h1 : (counts0 bs).s.getD k 0 + isIn ps k = 1
    · rw [if_pos h1, decide_eq_false (p := decide (0 ≤ (counts0 bs).p.getD k 0) = true ∧ (counts0 bs).s.getD k 0 + isIn ps k ≠ 1) fun h => h.2 h1, Bool.not_false, Bool.and_true]
    · rw [if_neg h1]
      by_cases h2 : 0 ≤ (counts0 bs).p.getD k 0
      · simp only [h2, h1, ne_eq, not_false_eq_true, decide_true, and_self, Bool.not_true, Bool.and_false]; rfl
      · simp only [h2, decide_false, Bool.false_and]; rfl
theorem cnt_len {bs : List BlockD} {n : Nat} (hb : ∀ b ∈ bs, BlockOk n b) (ha : ∀ b ∈ bs, ArgsOk b) : (counts0 bs).u.length = 6 ∧ (counts0 bs).r.length = 6 ∧ (counts0 bs).s.length = 6 ∧ (counts0 bs).p.length = 6 := by
  have I := inv_usage (ps := []) hb ha
  exact ⟨I.iu.1, I.ir.1, I.ls, I.lp⟩
end
end
section
section
theorem setL_some : ∀ {l : List Value} {k : Nat} (v : Value), k < l.length → ki_setL l k v = some (l.set k v) := by
  intro l
  induction l with
  | nil => intro k v h; simp at h
  | cons a r ih =>
    intro k v h
    cases k with
    | zero => rfl
    | succ k => simp only [ki_setL, List.set_cons_succ, ih v (Nat.lt_of_succ_lt_succ h)]
theorem All2.set {α β : Type} {R : α → β → Prop} {a : α} {b : β} : ∀ {l : List α} {l' : List β} (i : Nat), All2 R l l' → R a b → All2 R (l.set i a) (l'.set i b)
  | _, _, _, .nil, _ => .nil
  | _, _, 0, .cons _ y, h => .cons h y
  | _, _, i + 1, .cons x y, h => .cons x (y.set i h)
inductive CntAt (ul rl sl pl : Addr) (tail : Led) (c : CntD) : Led → Prop
  | mk {v1 v2 v3 v4 : List Value} {n1 n2 n3 n4 : Nat} (A1 : All2 IntAt v1 c.u) (A2 : All2 IntAt v2 c.r) (A3 : All2 IntAt v3 c.s) (A4 : All2 IntAt v4 c.p) (l1 : c.u.length = 6) (l2 : c.r.length = 6) (l3 : c.s.length = 6) (l4 : c.p.length = 6) :
      CntAt ul rl sl pl tail c ((ul, listOf (List.toArray v1) n1) :: (rl, listOf (List.toArray v2) n2) :: (sl, listOf (List.toArray v3) n3) :: (pl, listOf (List.toArray v4) n4) :: tail)
theorem m_cat {prog : Program} {w : World} {A : Around} {E : Value → Shared → Prop} {s : Shared} {h₀ : Heap} {L a b : Addr} {m : Str → Option Value} {news : Led} {vs us : List Value} {n k : Nat} {Q : Value → Shared → Prop} (F : Fr h₀ L s.heap m) (N : News h₀ L s.heap news) (ha : (a, listOf vs.toArray n) ∈ news) (hb : (b, listOf us.toArray k) ∈ news)
    (hz : vs.length + us.length ≤ 10000) (h : ∀ D h', Fr h₀ L h' m → News h₀ L h' ((D, listOf (vs ++ us).toArray 0) :: news) → (∀ p ∈ news, p.1 < D) → Q (.ref D) { s with heap := h' }) : wpAny (model prog w) A (binaryOp .Add (.ref a) (.ref b)) Q E s :=
  kmk_add_lit F N (isList_led N ha) (isList_led N hb) rfl h (by rw [sizeLine_eq]; simp; omega)
local macro_rules | `(tactic| walk_at "binaryOp Add ref ref") => `(tactic| (k_here; (with_reducible show wpAny _ _ (binaryOp _ (Value.ref _) (Value.ref _)) _ _ _); k_dflt (refine' m_cat ?F ?N ?a ?b ?z ?_; (case F => k_asm); (case N => k_asm); (case a => k_mem); (case b => k_mem); (case z => (simp only [List.length_cons, List.length_nil]; omega))); intro D' h' F' N' l1; (try k_lt l1); (try k_sweep)))
theorem m_itemZ {prog : Program} {w : World} {A : Around} {E : Value → Shared → Prop} {s : Shared} {h₀ : Heap} {L l : Addr} {vs : List Value} {n : Nat} {news : Led} {value slice : Expr} {k : Int} {u : Tok} {v : Value} {Q : Value → Shared → Prop} (N : News h₀ L s.heap news) (hm : (l, listOf vs.toArray n) ∈ news) (h0 : 0 ≤ k) (hfit : k < 10000) (hv : vs[k.toNat]? = some v) (h : Q v s)
    (hs : subscripted slice false (.ref l) (.int k u) = operate [.ref l, .int k u] (getItem (.ref l) (.int k u)) := by with_unfolding_all rfl) (hg : ∀ r, letTemporaryGo value (.ref l) r = pure () := by intro _; with_unfolding_all rfl) :
    wpAny (model prog w) A (subscriptTail value slice (.ref l) (.int k u)) Q E s :=
  item_listL (isList_led N hm) h0 (by omega) hv h hs hg
theorem m_setZ {prog : Program} {w : World} {A : Around} {E : Value → Shared → Prop} {s : Shared} {h₀ : Heap} {L D : Addr} {m : Str → Option Value} {vs : List Value} {n : Nat} {news news' : Led} {k : Int} {t : Tok} {v : Value} {Q : Unit → Shared → Prop} (F : Fr h₀ L s.heap m) (N : News h₀ L s.heap news) (h0 : 0 ≤ k) (hfit : k < 10000) (hl : k.toNat < vs.length)
    (U : Upd D (listOf vs.toArray n) (listOf (vs.set k.toNat v).toArray n) news news') (h : ∀ h', Fr h₀ L h' m → News h₀ L h' news' → Q () { s with heap := h' }) : wpAny (model prog w) A (setItem (.ref D) (.int k t) v) Q E s :=
  ki_set F N h0 (by omega) (setL_some v hl) U h
theorem all2_at : ∀ {vs : List Value} {ns : List Int} {j : Nat}, All2 IntAt vs ns → j < ns.length → ∃ t, vs[j]? = some (.int (ns.getD j 0) t)
  | _, _, _, .nil, h => by simp at h
  | _, _, 0, .cons (.mk (t := t)) _, _ => ⟨t, rfl⟩
  | _, _, j + 1, .cons _ y, h => by
    obtain ⟨t, ht⟩ := all2_at (j := j) y (by simpa using h)
    exact ⟨t, by simpa using ht⟩
local macro_rules | `(tactic| walk_at "setItem ref int") => `(tactic| (k_here; (with_reducible show wpAny _ _ (setItem (Value.ref _) (Value.int _ _) _) _ _ _); k_dflt (refine' m_setZ ?F ?N ?a ?b ?e ?U ?_; (case F => k_asm); (case N => k_asm); (case U => k_upd); (case a => omega); (case b => omega); (case e => omega)); intro h' F' N'; (try k_sweep)))
theorem set_self : ∀ (l : List Int) (i : Nat), i < l.length → l.set i (l.getD i 0) = l
  | [], _, _ => rfl
  | _ :: _, 0, _ => rfl
  | a :: l, i + 1, h => by
    have := set_self l i (by simpa using h)
    simpa using this
theorem bumpL_len (l : List Int) (i : Int) : (bumpL l i).length = l.length := List.length_set
theorem Kind.cases3 (k : Kind) : ((k = .load ∨ k = .store) ∧ (∀ c d, d.kind = k → ∀ a0 ar, d.args = a0 :: ar → cntStep c d = ⟨d.args.foldl cntOpd c.u, cntAcc c.r (a0 :: ar), if 0 ≤ d.dst then bumpL c.s d.dst else c.s, c.p⟩) ∧ (k.str = Str.ofString "slot") = False ∧ ([Str.ofString "load", Str.ofString "store"].any fun x => x == k.str) = true) ∨ k = .slot ∨
    ((∀ c d, d.kind = k → cntStep c d = ⟨d.args.foldl cntOpd c.u, c.r, if 0 ≤ d.dst then bumpL c.s d.dst else c.s, c.p⟩) ∧ (k.str = Str.ofString "slot") = False ∧ ([Str.ofString "load", Str.ofString "store"].any fun x => x == k.str) = false) := by
  cases k
  case load => exact .inl ⟨.inl rfl, fun c d h a0 ar e => by unfold cntStep; rw [h, e]; rfl, eq_false (by decide +kernel), by decide +kernel⟩
  case store => exact .inl ⟨.inr rfl, fun c d h a0 ar e => by unfold cntStep; rw [h, e]; rfl, eq_false (by decide +kernel), by decide +kernel⟩
  case slot => exact .inr (.inl rfl)
  all_goals exact .inr (.inr ⟨fun c d h => by unfold cntStep; rw [h]; rfl, eq_false (by decide +kernel), by decide +kernel⟩)
theorem off_same {d : Addr} {a b : Led} (h : Off d a) (e : b.map (·.1) = a.map (·.1)) : Off d b := fun p hp hd => by
  have hm : p.1 ∈ a.map (·.1) := by rw [← e]; exact List.mem_map_of_mem hp
  obtain ⟨q, hq, hqe⟩ := List.mem_map.mp hm
  exact h q hq (hqe.trans hd)
theorem off_ne4 {d ul rl sl pl : Addr} {o1 o2 o3 o4 : Obj} {t : Led} (h : Off d ((ul, o1) :: (rl, o2) :: (sl, o3) :: (pl, o4) :: t)) : (@Ne Nat d ul) ∧ (@Ne Nat d rl) ∧ (@Ne Nat d sl) ∧ (@Ne Nat d pl) := by
  simp only [off_cons] at h
  exact ⟨Ne.symm h.1, Ne.symm h.2.1, Ne.symm h.2.2.1, Ne.symm h.2.2.2.1⟩
theorem counts {w : World} {dp un : Nat} {gd : Option (List Code)} {cn : Str} {cs : Scope} {a : Addr} {ccd : Value} {cl : List (Str × Addr)} {outer : List Env} {A₀ : Around} {base h₀ : Heap} {L : Addr} {m : Str → Option Value} {mean : ExcName → Option Value} {mg mb : Str → Option Value}
    {news : Led} {s : Shared} {Q E : Value → Shared → Prop} {v : Value} {bs : List BlockD} {nn : Nat} (B : Below A₀ base outer h₀) (F : Fr h₀ L s.heap m) (X : (Mine.hd.heap_39 w.params).In h₀) (N : News h₀ L s.heap news) (T : Top Mine.hd.view_39 (looseW Mine.hd.view_39 [Str.ofString "ACCESSES"]) mean mg mb h₀) (hk : cs.kind = .function)
    (hbs : BlocksAt news v bs) (hbok : ∀ b ∈ bs, BlockOk nn b) (hbl : bs.length ≤ 3) (hd : dp + 3 < recursionLimit) (hu : un + 60 < cLine)
    (hret : ∀ t ul rl sl pl v1 v2 v3 v4 n1 n2 n3 n4 h' tk', Fr h₀ L h' m → News h₀ L h' ((t, tup [.ref ul, .ref rl, .ref sl, .ref pl]) :: (ul, listOf (List.toArray v1) n1) :: (rl, listOf (List.toArray v2) n2) :: (sl, listOf (List.toArray v3) n3) :: (pl, listOf (List.toArray v4) n4) :: news) →
      All2 IntAt v1 (counts0 bs).u → All2 IntAt v2 (counts0 bs).r → All2 IntAt v3 (counts0 bs).s → All2 IntAt v4 (counts0 bs).p → Q (.ref t) { s with heap := h', toks := tk' }) :
    wpAny (model PySem.Challenge.rw_nm0006_01.row.prog w) (ktrTop dp un gd cn cs L a ccd cl outer) (call (.ref 212) [v]) Q E s := by
  w_top off
  k_with_none
  k_with "m_rst" => first | (with_reducible apply Rst.nil) | (with_reducible apply Rst.cons; k_extra "m_rst")
  k_with "m_pick" => first | (with_reducible apply Pick.head; k_extra "m_rst") | (with_reducible apply Pick.tail; k_extra "m_pick")
  k_with "m_draw" => (
  (case N => k_asm); (case P => k_extra "m_pick"); (case B => k_asm); (case F => k_asm); (case X => k_asm);
  (case off => ((try simp only [List.nil_append, List.cons_append]); k_all)); (case T => k_asm); (case k => first | exact rfl | assumption); (case W => assumption); (case I => assumption);
  (case b => omega); (case d => ktr_room); (case u => ktr_units))
  k_with "m_al" => first | assumption | exact And.right (by assumption) | exact And.right (And.right (by assumption)) | exact And.right (And.right (And.right (by assumption))) | exact And.right (And.right (And.right (And.right (by assumption)))) | exact And.right (And.right (And.right (And.right (And.right (by assumption))))) | exact And.right (And.right (And.right (And.right (And.right (And.right (by assumption)))))) | exact And.right (And.right (And.right (And.right (And.right (And.right (And.right (by assumption))))))) | exact And.right (And.right (And.right (And.right (And.right (And.right (And.right (And.right (by assumption)))))))) | exact And.right (And.right (And.right (And.right (And.right (And.right (And.right (And.right (And.right (by assumption))))))))) | exact And.right (And.right (And.right (And.right (And.right (And.right (And.right (And.right (And.right (And.right (by assumption)))))))))) | exact And.right (And.right (And.right (And.right (And.right (And.right (And.right (And.right (And.right (And.right (And.right (by assumption))))))))))) | exact And.right (And.right (And.right (And.right (And.right (And.right (And.right (And.right (And.right (And.right (And.right (And.right (by assumption)))))))))))) | exact And.right (And.right (And.right (And.right (And.right (And.right (And.right (And.right (And.right (And.right (And.right (And.right (And.right (by assumption))))))))))))) | exact And.right (And.right (And.right (And.right (And.right (And.right (And.right (And.right (And.right (And.right (And.right (And.right (And.right (And.right (by assumption)))))))))))))) | exact And.right (And.right (And.right (And.right (And.right (And.right (And.right (And.right (And.right (And.right (And.right (And.right (And.right (And.right (And.right (by assumption))))))))))))))) | exact And.right (And.right (And.right (And.right (And.right (And.right (And.right (And.right (And.right (And.right (And.right (And.right (And.right (And.right (And.right (And.right (by assumption)))))))))))))))) | exact And.right (And.right (And.right (And.right (And.right (And.right (And.right (And.right (And.right (And.right (And.right (And.right (And.right (And.right (And.right (And.right (And.right (by assumption))))))))))))))))) | exact And.right (And.right (And.right (And.right (And.right (And.right (And.right (And.right (And.right (And.right (And.right (And.right (And.right (And.right (And.right (And.right (And.right (And.right (by assumption)))))))))))))))))) | exact AllLt.up (by assumption) (by k_extra "m_al")
  k_with "m_cells" => first | k_extra "m_cellsG" | (simp only [List.map_append, List.map_cons, List.cons_append, List.nil_append, List.mem_cons, List.map_nil, List.mem_append]; intro x hx; first | assumption | (rcases hx with hx | hx <;> simp only [hx, true_or, or_true]))
  k_with "m_grow" => first | (with_reducible exact Grow.refl) | (with_reducible refine Grow.add ?_ ?_; k_extra "m_grow"; exact cellsNe (by first | k_extra "m_lt" | omega) (by k_extra "m_al")) | (with_reducible refine Grow.transR (by assumption) ?_ ?_; k_extra "m_cells"; k_extra "m_grow")
  k_with "m_cell1" => (simp only [List.map_append, List.map_cons, List.cons_append, List.nil_append, List.mem_cons, List.map_nil, List.mem_append, true_or, or_true]; done)
  k_with "m_mem" => first | exact List.Mem.head _ | (refine List.Mem.tail _ ?_; k_extra "m_mem")
  k_with "m_sub" => (intro p hp; simp only [List.mem_cons, hp, or_true])
  k_with "m_ctx" => ((case N => k_asm); (case B => k_asm); (case F => k_asm); (case X => k_asm); (case T => k_asm); (case k => first | exact rfl | assumption); (case d => ktr_room); (case u => ktr_units))
  k_with "m_subR" => (intro p hp; simp only [List.mem_cons, List.mem_append, hp, or_true])
  k_with "m_memT" => first | assumption | exact List.Mem.head _ | (refine List.Mem.tail _ ?_; k_extra "m_memT")
  k_with "m_mq" => first | (with_reducible exact List.mem_cons_self) | ((with_reducible refine List.mem_cons_of_mem _ ?_); k_extra "m_mq") | ((with_reducible refine List.mem_append_left _ ?_); k_extra "m_mq") | ((with_reducible refine List.mem_append_right _ ?_); k_extra "m_mq") | (with_reducible assumption)
  k_with "m_sq" => first | (with_reducible exact fa_self) | ((with_reducible refine fa_tail ?_); k_extra "m_sq") | ((with_reducible refine fa_left ?_); k_extra "m_sq") | ((with_reducible refine fa_right ?_); k_extra "m_sq") | (with_reducible assumption)
  k_with "m_perm" => ((repeat' (with_reducible first | refine fa_cons ?_ ?_ | refine fa_app ?_ ?_ | exact fa_nil)); all_goals (first | k_extra "m_mq" | k_extra "m_sq"))
  k_with "m_cellsG" => ((try simp only [List.cons_append, List.nil_append, List.map_cons, List.map_append]); k_extra "m_perm")
  k_with "exec Assign cons ListComp" => walk_at "exec Assign"
  k_with "m_lt" => first | (with_reducible exact Nat.lt_succ_self _) | ((with_reducible refine Nat.lt_succ_of_lt ?_); k_extra "m_lt") | (with_reducible assumption) | (with_reducible exact And.left (by assumption)) | (with_reducible exact And.left (And.right (by assumption))) | (with_reducible exact And.left (And.right (And.right (by assumption)))) | (with_reducible exact And.left (And.right (And.right (And.right (by assumption))))) | (with_reducible exact And.left (And.right (And.right (And.right (And.right (by assumption)))))) | (with_reducible exact And.left (And.right (And.right (And.right (And.right (And.right (by assumption))))))) | (with_reducible exact And.left (And.right (And.right (And.right (And.right (And.right (And.right (by assumption)))))))) | (with_reducible exact And.left (And.right (And.right (And.right (And.right (And.right (And.right (And.right (by assumption))))))))) | (with_reducible exact And.left (And.right (And.right (And.right (And.right (And.right (And.right (And.right (And.right (by assumption)))))))))) | (with_reducible exact And.right (by assumption)) | (with_reducible exact And.right (And.right (by assumption))) | (with_reducible exact And.right (And.right (And.right (by assumption)))) | (with_reducible exact And.right (And.right (And.right (And.right (by assumption))))) | ((with_reducible refine Nat.lt_trans ?_ (by assumption)); k_extra "m_lt")
  k_with "m_ne" => first | (with_reducible assumption) | (with_reducible exact Ne.symm (by assumption)) | (with_reducible exact Ne.symm (And.left (by assumption))) | (with_reducible exact Ne.symm (And.left (And.right (by assumption)))) | (with_reducible exact And.left (by assumption)) | (with_reducible exact And.left (And.right (by assumption))) | exact Nat.ne_of_gt (by k_extra "m_lt") | exact Nat.ne_of_lt (by k_extra "m_lt") | omega
  k_with "m_rm" => first | (with_reducible exact room1 (by assumption) (Nat.le_of_ble_eq_true rfl)) | (with_reducible exact room2 (by assumption) (Nat.le_of_ble_eq_true rfl)) | (with_reducible exact room3 (by assumption) (Nat.le_of_ble_eq_true rfl)) | ((simp only [depth_under_make, depth_under_kw, depth_in1, depth_deeper, depth_caller, units_in1, units_deeper, Around.mark_units, units_caller]); (try dsimp only [ktrTop]); first | (with_reducible exact room1 (by assumption) (Nat.le_of_ble_eq_true rfl)) | (with_reducible exact room2 (by assumption) (Nat.le_of_ble_eq_true rfl)) | (with_reducible exact room3 (by assumption) (Nat.le_of_ble_eq_true rfl)))
  k_with "exec For Name Name cons nil" => (k_here; walk_at "m_kF"; with_unfolding_all refine For_invTF (by first | with_reducible assumption | assumption) ?_ (by intro _; rfl))
  k_with "pyIter ref" => ((with_reducible show wpAny _ _ (pyIter (Value.ref _)) (fun it s₂ => LoopAtT _ _ _ _ _ _ _ _ _ it s₂) _ _); refine hold ?_)
  k_with "exec For Name BinOp cons nil" => (k_here; walk_at "m_kF"; with_unfolding_all refine For_invTF (by first | with_reducible assumption | assumption) ?_ (by intro _; rfl))
  k_with "exec For Tuple Attribute cons nil" => (k_here; walk_at "m_kF"; with_unfolding_all refine For_invTF (by first | with_reducible assumption | assumption) ?_ (by intro _; rfl))
  k_with "subscriptTail" => (k_here; (with_reducible show wpAny _ _ (subscriptTail _ _ (Value.ref _) (Value.int _ _)) _ _ _); k_dflt (refine' m_itemZ (by k_asm) (by k_mem) (by omega) (by omega) (by first | assumption | rfl) ?_))
  k_with "compareOp Eq str str" => (refine m_eqstr_ne (by assumption) ?_)
  (have kf : PySem.Challenge.rw_nm0006_01.Holds → Mine.hd.heap_39 w.params = Mine.hd.heap_39 w.params := by k_fill; intro; rfl); clear kf
  obtain ⟨bal, bvs2, bn2, rfl, hbal, hbv⟩ := hbs
  refine wpAny_call ?_
  k_dflt ktr_enter
  k_steps
  unfold Hold
  rename_i g' L1 hq0 FG B1 X1 T1 tk0 la0 ha0 lla0 ul hul i1 n1 s1 e1 e2 e3 llu lb0 hb0 llb0 rl hrl j1 n2 s2 f1 f2 f3 llr lc0 hc0 llc0 sl hsl k1 n3 s3 q1 q2 q3 lls ld0 hd0 lld0 pl hpl m1 n4 s4 r1 r2 r3 llp TT hTT lTT hz1 hz2 hz3 hz4 hz5 kF N1
  have hne : (@LT.lt Nat _ ul rl) ∧ (@LT.lt Nat _ rl sl) ∧ (@LT.lt Nat _ sl pl) := ⟨by omega, by omega, by omega⟩
  obtain ⟨hn1, hn2, hn3⟩ := hne
  have ofu : Off ul news := allLt_off llu.2
  have ofr : Off rl news := allLt_off (llr.2.2.2)
  have ofs : Off sl news := allLt_off (lls.2.2.2.2.2)
  have ofp : Off pl news := allLt_off (llp.2.2.2.2.2.2.2)
  have N2 := News.sub' (a := (ul, _) :: (rl, _) :: (sl, _) :: (pl, _) :: news) N1 (by k_extra "m_perm")
  have hI1 := ints_all2 i1
  have hI2 := ints_all2 j1
  have hI3 := ints_all2 k1
  have hI4 := ints_all2 m1
  clear lla0 llu llb0 llr llc0 lls lld0 llp lTT s1 e1 e2 e3 s2 f1 f2 f3 s3 q1 q2 q3 s4 r1 r2 r3 N1 i1 j1 k1 m1
  have hb2 : bvs2.length ≤ 3 := by rw [hbv.length]; exact hbl
  refine iter_list (l := bal) (vs := bvs2) (n₀ := bn2) (fun i m₁ nw => CntAt ul rl sl pl news ((bs.take i).foldl cntBlock ⟨List.replicate 6 0, List.replicate 6 0, List.replicate 6 0, List.replicate 6 (-1)⟩) nw ∧ m₁ (Str.ofString "uses") = some (.ref ul) ∧ m₁ (Str.ofString "reached") = some (.ref rl) ∧ m₁ (Str.ofString "settings") = some (.ref sl) ∧ m₁ (Str.ofString "places") = some (.ref pl)) (by rfl) kF N2 ?hmA ?hjA ?turnA ?doneA
  case hmA => rintro i m₁ nw ⟨⟨_, _, _, _, _, _, _, _⟩, _⟩; exact .tail _ (.tail _ (.tail _ (.tail _ hbal)))
  case hjA => exact ⟨.mk hI1 hI2 hI3 hI4 rfl rfl rfl rfl, rfl, rfl, rfl, rfl⟩
  case turnA =>
    rintro i v m₁ nw s₁ I oI hv ⟨hJ, hm1, hm2, hm3, hm4⟩ off F3 N3
    obtain ⟨b, hb, hB⟩ := hbv.get hv
    rw [foldl_take _ _ hb]
    generalize (bs.take i).foldl cntBlock ⟨List.replicate 6 0, List.replicate 6 0, List.replicate 6 0, List.replicate 6 (-1)⟩ = c at hJ ⊢
    have hbo := hbok b (List.mem_of_getElem? hb)
    obtain @⟨x2, dx2, bl2, _, _, _, _, _, _, vn2, ve2, _, svs, sn, hx2, hdx2, hbl2, hs2, hfin⟩ := hB
    cases hJ with | @mk v1 v2 v3 v4 n1 n2 n3 n4 A1 A2 A3 A4 l1 l2 l3 l4
    obtain ⟨m₀, rfl⟩ := map4 hm1 hm2 hm3 hm4
    have hsv3 : svs.length ≤ 3 := by rw [hs2.length]; exact hbo.1
    obtain ⟨i1, i2, i3, i4⟩ := off_ne4 off
    clear kF N2 hm1 hm2 hm3 hm4 hret
    k_steps
    unfold Hold
    rename_i ha1 lt1 ha2 llt1 AL ha3 F4 N4 lAL
    obtain ⟨x0, x1, x3, x4, x5, x6, x7⟩ := lAL
    have hs3 := hs2.snoc hfin
    have N5 := News.sub' (a := (AL, listOf (List.toArray (svs ++ [ve2])) 0) :: (I, oI) :: (ul, listOf (List.toArray v1) n1) :: (rl, listOf (List.toArray v2) n2) :: (sl, listOf (List.toArray v3) n3) :: (pl, listOf (List.toArray v4) n4) :: news) N4 (by k_extra "m_perm")
    have hbok2 : ∀ st ∈ b.steps ++ [b.fin], StepOk st := by
      intro st hst
      rcases List.mem_append.mp hst with h | h
      · exact (hbo.2.1 st h).1
      · rw [List.mem_singleton.mp h]; exact hbo.2.2.1
    refine iter_list (l := AL) (vs := svs ++ [ve2]) (n₀ := 0) (fun j m₁ nw => (∃ nw', nw = (AL, listOf (List.toArray (svs ++ [ve2])) 0) :: (I, oI) :: nw' ∧ CntAt ul rl sl pl news (((b.steps ++ [b.fin]).take j).foldl cntStep c) nw') ∧ m₁ (Str.ofString "uses") = some (.ref ul) ∧ m₁ (Str.ofString "reached") = some (.ref rl) ∧ m₁ (Str.ofString "settings") = some (.ref sl) ∧ m₁ (Str.ofString "places") = some (.ref pl)) (by rfl) F4 N5 ?hmB ?hjB ?turnB ?doneB
    case hmB => rintro i m₁ nw ⟨⟨nw', rfl, _⟩, _⟩; exact .head _
    case hjB => exact ⟨⟨_, rfl, .mk A1 A2 A3 A4 l1 l2 l3 l4⟩, rfl, rfl, rfl, rfl⟩
    case turnB =>
      rintro j v m₁ nw s₂ I2 oI2 hv2 ⟨⟨nw', rfl, hJ⟩, hm1, hm2, hm3, hm4⟩ off2 F6 N6
      obtain ⟨st, hst, hS⟩ := hs3.get hv2
      rw [foldl_take _ _ hst]
      generalize ((b.steps ++ [b.fin]).take j).foldl cntStep c = c2 at hJ ⊢
      have hso := hbok2 st (List.mem_of_getElem? hst)
      have off2' : Off I2 ((ul, oI) :: (rl, oI) :: (sl, oI) :: (pl, oI) :: news) := by
        cases hJ; exact off_same (off_cons.mp (off_cons.mp off2).2).2 rfl
      obtain ⟨j1, j2, j3, j4⟩ := off_ne4 off2'
      clear A1 A2 A3 A4 l1 l2 l3 l4 N4 N5 F4 F3 N3
      cases hJ with | @mk v1 v2 v3 v4 n1 n2 n3 n4 A1 A2 A3 A4 l1 l2 l3 l4
      obtain ⟨m₂, rfl⟩ := map4 hm1 hm2 hm3 hm4
      obtain @⟨sx, sdx, al, g1, g2, g3, g4, g5, g6, t1, t2, t3, t4, t5, t6, t7, to, td, vm, _, avs, an, hsx, hsdx, hal, ha2, hmo⟩ := hS
      clear hm1 hm2 hm3 hm4
      k_steps
      unfold Hold
      rename_i F7 N7
      refine iter_list (l := al) (vs := avs) (n₀ := an) (fun k m₁ nw => (∃ nw', nw = (I2, oI2) :: (AL, listOf (List.toArray (svs ++ [ve2])) 0) :: (I, oI) :: nw' ∧ CntAt ul rl sl pl news { c2 with u := (st.args.take k).foldl cntOpd c2.u } nw') ∧ m₁ (Str.ofString "uses") = some (.ref ul) ∧ m₁ (Str.ofString "reached") = some (.ref rl) ∧ m₁ (Str.ofString "settings") = some (.ref sl) ∧ m₁ (Str.ofString "places") = some (.ref pl) ∧ m₁ (Str.ofString "act") = some (.ref sx)) (by rfl) F7 N7 ?hmC ?hjC ?turnC ?doneC
      case hmC => rintro i m₁ nw ⟨⟨nw', rfl, ⟨_, _, _, _, _, _, _, _⟩⟩, _⟩; exact .tail _ (.tail _ (.tail _ (.tail _ (.tail _ (.tail _ (.tail _ hal))))))
      case hjC => exact ⟨⟨_, rfl, .mk A1 A2 A3 A4 l1 l2 l3 l4⟩, rfl, rfl, rfl, rfl, rfl⟩
      case turnC =>
        rintro k v m₁ nw s₃ I3 oI3 hv3 ⟨⟨nw', rfl, hJ⟩, hm1, hm2, hm3, hm4, hm5⟩ off3 F8 N8
        obtain ⟨op, hop, hO⟩ := ha2.get hv3
        rw [foldl_take _ _ hop]
        clear A1 A2 A3 A4 l1 l2 l3 l4 F7 N7 F6 N6
        generalize (st.args.take k).foldl cntOpd c2.u = cu at hJ ⊢
        cases hJ with | @mk v1 v2 v3 v4 n1 n2 n3 n4 A1 A2 A3 A4 l1 l2 l3 l4
        obtain ⟨m₃, rfl⟩ := map5 hm1 hm2 hm3 hm4 hm5
        clear hm1 hm2 hm3 hm4 hm5
        dsimp only at A1 l1
        have hv1l := A1.length
        obtain ⟨w1, w2, w3, w4⟩ := off_ne4 (off_cons.mp (off_cons.mp (off_cons.mp off3).2).2).2
        cases hO with
        | @r oa oi ot oti q1 q2 hmo =>
          obtain ⟨tx, htx⟩ := all2_at A1 (j := oi.toNat) (by omega)
          k_steps
          rename_i FN NN
          refine TurnEnd.intro (nw := (I2, oI2) :: (AL, listOf (List.toArray (svs ++ [ve2])) 0) :: (I, oI) :: (ul, listOf (List.toArray (v1.set oi.toNat (.int (cu.getD oi.toNat 0 + 1) _))) n1) :: (rl, listOf (List.toArray v2) n2) :: (sl, listOf (List.toArray v3) n3) :: (pl, listOf (List.toArray v4) n4) :: news) FN NN (fun p hp => hp) (off_same off3 rfl)
            ⟨⟨_, rfl, .mk (A1.set _ .mk) A2 A3 A4 (by dsimp only; unfold cntOpd bumpL; rw [List.length_set]; exact l1) l2 l3 l4⟩, rfl, rfl, rfl, rfl, rfl⟩
        | k hmo =>
          k_steps
          exact TurnEnd.intro (nw := (I2, oI2) :: (AL, listOf (List.toArray (svs ++ [ve2])) 0) :: (I, oI) :: (ul, listOf (List.toArray v1) n1) :: (rl, listOf (List.toArray v2) n2) :: (sl, listOf (List.toArray v3) n3) :: (pl, listOf (List.toArray v4) n4) :: news) (by assumption) (by assumption) (fun p hp => hp) off3
            ⟨⟨_, rfl, .mk A1 A2 A3 A4 l1 l2 l3 l4⟩, rfl, rfl, rfl, rfl, rfl⟩
      case doneC =>
        rintro m₁ nw h tk ⟨⟨nw', rfl, hJ⟩, hm1, hm2, hm3, hm4, hm5⟩ F8 N8
        rw [take_all2 ha2] at hJ
        clear A1 A2 A3 A4 l1 l2 l3 l4 F7 N7 F6 N6
        cases hJ with | @mk v1 v2 v3 v4 n1 n2 n3 n4 A1 A2 A3 A4 l1 l2 l3 l4
        obtain ⟨m₃, rfl⟩ := map5 hm1 hm2 hm3 hm4 hm5
        clear hm1 hm2 hm3 hm4 hm5
        dsimp only at A1 A2 A3 A4 l1 l2 l3 l4
        have hv2l := A2.length
        have hv3l := A3.length
        have hv4l := A4.length
        have hdst := hso.1
        obtain ⟨zs, hzs⟩ := all2_at A3 (j := st.dst.toNat) (by omega)
        obtain ⟨zp, hzp⟩ := all2_at A4 (j := st.dst.toNat) (by omega)
        rcases Kind.cases3 st.kind with ⟨hls, hkd, hk1, hk2⟩ | hkd | ⟨hkd, hk1, hk2⟩
        · obtain ⟨a0, ar, hargs⟩ := List.exists_cons_of_ne_nil (hso.2.1 hls)
          rw [hkd c2 st rfl a0 ar hargs]
          rw [hargs] at ha2
          generalize st.kind.str = ops at hk1 hk2 hsdx
          cases ha2 with
          | cons hO hr =>
            cases hO with
            | @r oa oi ot oti q1 q2 hmo =>
              obtain ⟨zr, hzr⟩ := all2_at A2 (j := oi.toNat) (by omega)
              k_steps
              all_goals first
                | (have a9 : 0 ≤ st.dst := by assumption
                   have hAP := A4.set st.dst.toNat (IntAt.mk (x := c2.p.getD st.dst.toNat 0) (t := zp))
                   rw [set_self _ _ (by omega)] at hAP
                   rw [if_pos a9]
                   rename_i FN NN
                   exact TurnEnd.intro (nw := (AL, listOf (List.toArray (svs ++ [ve2])) 0) :: (I, oI) :: (ul, listOf (List.toArray v1) n1) :: (rl, listOf (List.toArray (v2.set oi.toNat (.int (c2.r.getD oi.toNat 0 + 1) _))) n2) :: (sl, listOf (List.toArray (v3.set st.dst.toNat (.int (c2.s.getD st.dst.toNat 0 + 1) _))) n3) :: (pl, listOf (List.toArray (v4.set st.dst.toNat (.int (c2.p.getD st.dst.toNat 0) zp))) n4) :: news) FN NN (fun p hp => .tail _ hp) (off_same off2 rfl)
                                ⟨⟨_, rfl, .mk A1 (A2.set _ .mk) (A3.set _ .mk) hAP l1 ((bumpL_len _ _).trans l2) ((bumpL_len _ _).trans l3) l4⟩, rfl, rfl, rfl, rfl⟩)
                | (have a9 : ¬ 0 ≤ st.dst := by assumption
                   rw [if_neg a9]
                   rename_i FN NN a8
                   exact TurnEnd.intro (nw := (AL, listOf (List.toArray (svs ++ [ve2])) 0) :: (I, oI) :: (ul, listOf (List.toArray v1) n1) :: (rl, listOf (List.toArray (v2.set oi.toNat (.int (c2.r.getD oi.toNat 0 + 1) _))) n2) :: (sl, listOf (List.toArray v3) n3) :: (pl, listOf (List.toArray v4) n4) :: news) FN NN (fun p hp => .tail _ hp) (off_same off2 rfl)
                                ⟨⟨_, rfl, .mk A1 (A2.set _ .mk) A3 A4 l1 ((bumpL_len _ _).trans l2) l3 l4⟩, rfl, rfl, rfl, rfl⟩)
            | k hmo =>
              k_steps
              all_goals first
                | (have a9 : 0 ≤ st.dst := by assumption
                   have hAP := A4.set st.dst.toNat (IntAt.mk (x := c2.p.getD st.dst.toNat 0) (t := zp))
                   rw [set_self _ _ (by omega)] at hAP
                   rw [if_pos a9]
                   rename_i FN NN
                   exact TurnEnd.intro (nw := (AL, listOf (List.toArray (svs ++ [ve2])) 0) :: (I, oI) :: (ul, listOf (List.toArray v1) n1) :: (rl, listOf (List.toArray v2) n2) :: (sl, listOf (List.toArray (v3.set st.dst.toNat (.int (c2.s.getD st.dst.toNat 0 + 1) _))) n3) :: (pl, listOf (List.toArray (v4.set st.dst.toNat (.int (c2.p.getD st.dst.toNat 0) zp))) n4) :: news) FN NN (fun p hp => .tail _ hp) (off_same off2 rfl)
                                ⟨⟨_, rfl, .mk A1 A2 (A3.set _ .mk) hAP l1 l2 ((bumpL_len _ _).trans l3) l4⟩, rfl, rfl, rfl, rfl⟩)
                | (have a9 : ¬ 0 ≤ st.dst := by assumption
                   rw [if_neg a9]
                   skip
                   exact TurnEnd.intro (nw := (AL, listOf (List.toArray (svs ++ [ve2])) 0) :: (I, oI) :: (ul, listOf (List.toArray v1) n1) :: (rl, listOf (List.toArray v2) n2) :: (sl, listOf (List.toArray v3) n3) :: (pl, listOf (List.toArray v4) n4) :: news) (by assumption) (by assumption) (fun p hp => .tail _ hp) (off_same off2 rfl)
                                ⟨⟨_, rfl, .mk A1 A2 A3 A4 l1 l2 l3 l4⟩, rfl, rfl, rfl, rfl⟩)
        · obtain ⟨h0, _⟩ := hso.2.2.1 hkd
          obtain ⟨tm, rfl⟩ := hmo hkd
          have hC : cntStep c2 st = ⟨st.args.foldl cntOpd c2.u, c2.r, bumpL c2.s st.dst, c2.p.set st.dst.toNat st.more⟩ := by unfold cntStep; rw [hkd, if_pos h0]; rfl
          rw [hC]
          rw [hkd] at hsdx
          k_steps
          all_goals first
            | (rename_i FN NN
               exact TurnEnd.intro (nw := (AL, listOf (List.toArray (svs ++ [ve2])) 0) :: (I, oI) :: (ul, listOf (List.toArray v1) n1) :: (rl, listOf (List.toArray v2) n2) :: (sl, listOf (List.toArray (v3.set st.dst.toNat (.int (c2.s.getD st.dst.toNat 0 + 1) _))) n3) :: (pl, listOf (List.toArray (v4.set st.dst.toNat (.int st.more _))) n4) :: news) FN NN (fun p hp => .tail _ hp) (off_same off2 rfl)
                  ⟨⟨_, rfl, .mk A1 A2 (A3.set _ .mk) (A4.set _ .mk) l1 l2 ((bumpL_len _ _).trans l3) (List.length_set.trans l4)⟩, rfl, rfl, rfl, rfl⟩)
            | (exfalso; omega)
        · rw [hkd _ _ rfl]
          generalize st.kind.str = ops at hk1 hk2 hsdx
          k_steps
          all_goals first
            | (have a9 : 0 ≤ st.dst := by assumption
               have hAP := A4.set st.dst.toNat (IntAt.mk (x := c2.p.getD st.dst.toNat 0) (t := zp))
               rw [set_self _ _ (by omega)] at hAP
               rw [if_pos a9]
               rename_i FN NN
               exact TurnEnd.intro (nw := (AL, listOf (List.toArray (svs ++ [ve2])) 0) :: (I, oI) :: (ul, listOf (List.toArray v1) n1) :: (rl, listOf (List.toArray v2) n2) :: (sl, listOf (List.toArray (v3.set st.dst.toNat (.int (c2.s.getD st.dst.toNat 0 + 1) _))) n3) :: (pl, listOf (List.toArray (v4.set st.dst.toNat (.int (c2.p.getD st.dst.toNat 0) zp))) n4) :: news) FN NN (fun p hp => .tail _ hp) (off_same off2 rfl)
                  ⟨⟨_, rfl, .mk A1 A2 (A3.set _ .mk) hAP l1 l2 ((bumpL_len _ _).trans l3) l4⟩, rfl, rfl, rfl, rfl⟩)
            | (have a9 : ¬ 0 ≤ st.dst := by assumption
               rw [if_neg a9]
               exact TurnEnd.intro (nw := (AL, listOf (List.toArray (svs ++ [ve2])) 0) :: (I, oI) :: (ul, listOf (List.toArray v1) n1) :: (rl, listOf (List.toArray v2) n2) :: (sl, listOf (List.toArray v3) n3) :: (pl, listOf (List.toArray v4) n4) :: news) (by assumption) (by assumption) (fun p hp => .tail _ hp) (off_same off2 rfl)
                  ⟨⟨_, rfl, .mk A1 A2 A3 A4 l1 l2 l3 l4⟩, rfl, rfl, rfl, rfl⟩)
    case doneB =>
      rintro m₁ nw h tk ⟨⟨nw', rfl, hJ⟩, hm1, hm2, hm3, hm4⟩ F6 N6
      rw [take_all2 hs3] at hJ
      clear A1 A2 A3 A4 l1 l2 l3 l4 F4 N4 F3 N3 N5
      cases hJ with | @mk v1 v2 v3 v4 n1 n2 n3 n4 A1 A2 A3 A4 l1 l2 l3 l4
      k_steps
      exact TurnEnd.intro (nw := (ul, listOf (List.toArray v1) n1) :: (rl, listOf (List.toArray v2) n2) :: (sl, listOf (List.toArray v3) n3) :: (pl, listOf (List.toArray v4) n4) :: news) F6 N6 (fun p hp => .tail _ hp) (off_same off rfl)
        ⟨.mk A1 A2 A3 A4 l1 l2 l3 l4, hm1, hm2, hm3, hm4⟩
  case doneA =>
    rintro m₁ nw h tk ⟨hJ, hm1, hm2, hm3, hm4⟩ F3 N3
    rw [take_all2 hbv] at hJ
    clear kF N2
    cases hJ with | @mk v1 v2 v3 v4 n1 n2 n3 n4 A1 A2 A3 A4 l1 l2 l3 l4
    obtain ⟨m₀, rfl⟩ := map4 hm1 hm2 hm3 hm4
    k_steps
    rename_i kFr kNr _ _
    exact hret _ _ _ _ _ _ _ _ _ _ _ _ _ _ _ kFr kNr A1 A2 A3 A4
end
end
section
section
theorem All2.back {α β : Type} {R : α → β → Prop} : ∀ {l : List α} {l' : List β} {b : β}, All2 R l l' → b ∈ l' → ∃ a, R a b
  | _, _, _, .cons x y, h => by
    rcases List.mem_cons.mp h with rfl | h
    · exact ⟨_, x⟩
    · exact y.back h
theorem StepAt.args {rest : Led} {v : Value} {d : StepD} (h : StepAt rest v d) : ∀ o ∈ d.args, OpdOk o := fun o ho => by
  cases h with | mk a b c e f => obtain ⟨x, hx⟩ := e.back ho; exact hx.ok
theorem BlocksAt.args {rest : Led} {v : Value} {bs : List BlockD} (h : BlocksAt rest v bs) : ∀ b ∈ bs, ArgsOk b := fun b hb st hst => by
  obtain ⟨al, vs, n, _, _, h2⟩ := h
  obtain ⟨x, hx⟩ := h2.back hb
  cases hx with | mk a b c e f =>
  rcases List.mem_append.mp hst with h | h
  · obtain ⟨y, hy⟩ := e.back h; exact hy.args
  · rw [List.mem_singleton.mp h]; exact f.args
theorem any_isIn (ps : List Int) (k : Nat) : (if (ps.any fun x => x == (k : Int)) = true then (1 : Int) else 0) = isIn ps k := by
  unfold isIn
  have e : (ps.any fun x => x == (k : Int)) = true ↔ (k : Int) ∈ ps := by
    rw [List.any_eq_true]
    constructor
    · rintro ⟨x, hx, e⟩
      have : x = (k : Int) := by simpa using e
      exact this ▸ hx
    · intro h; exact ⟨_, h, by simp⟩
  simp only [e]
theorem onlyB_pos {c1 c2 c3 : List (Int × Int)} {k p : Int} (h : kdfHas c3 k = decide (0 ≤ p)) (hp : 0 ≤ p) : (onlyB c1 c2 c3 k != (kdfLook c1 k 0 == kdfLook c2 k 0)) = false := by
  unfold onlyB
  rw [h, decide_eq_true hp, Bool.true_and]
  by_cases e : kdfLook c1 k 0 = kdfLook c2 k 0 <;> simp [e]
theorem onlyB_neg {c1 c2 c3 : List (Int × Int)} {k p : Int} (h : kdfHas c3 k = decide (0 ≤ p)) (hp : ¬ 0 ≤ p) : (onlyB c1 c2 c3 k != decide (0 ≤ p)) = false := by
  unfold onlyB
  rw [h, decide_eq_false hp, Bool.false_and]; rfl
local macro_rules | `(tactic| walk_at "call ref cons nil") => `(tactic| (k_here; (with_reducible show wpAny _ _ (call (Value.ref 155) [Value.ref _, Value.int _ _]) _ _ _); k_dflt (refine' ReadSpec.use (only_addressed _ _ _ _ _ _ _) ?B ?F ?X ?N ?T ?k ?pre ?d ?u ?_; k_extra "m_ctx"; (case pre => exact UsageAt.mono (by assumption) (by k_extra "m_sq")); intro r9 h9 tk9 F9 N9 ho9; (try k_sweep); subst ho9)))
theorem usage_right (w : World) (v v2 : Value) (d : FuncD) (bs : List BlockD) (nn : Nat) : ReadSpec w 219 30 (fun news => FuncAt news v d ∧ FuncOk d ∧ BlocksAt news v2 bs ∧ (∀ b ∈ bs, BlockOk nn b) ∧ bs.length ≤ 3) [v, v2] (fun r => r = .bool true) := by
  w_top off
  k_with_none
  k_with "m_rst" => first | (with_reducible apply Rst.nil) | (with_reducible apply Rst.cons; k_extra "m_rst")
  k_with "m_pick" => first | (with_reducible apply Pick.head; k_extra "m_rst") | (with_reducible apply Pick.tail; k_extra "m_pick")
  k_with "m_draw" => (
  (case N => k_asm); (case P => k_extra "m_pick"); (case B => k_asm); (case F => k_asm); (case X => k_asm);
  (case off => ((try simp only [List.nil_append, List.cons_append]); k_all)); (case T => k_asm); (case k => first | exact rfl | assumption); (case W => assumption); (case I => assumption);
  (case b => omega); (case d => ktr_room); (case u => ktr_units))
  k_with "m_al" => first | assumption | exact And.right (by assumption) | exact And.right (And.right (by assumption)) | exact And.right (And.right (And.right (by assumption))) | exact And.right (And.right (And.right (And.right (by assumption)))) | exact And.right (And.right (And.right (And.right (And.right (by assumption))))) | exact And.right (And.right (And.right (And.right (And.right (And.right (by assumption)))))) | exact And.right (And.right (And.right (And.right (And.right (And.right (And.right (by assumption))))))) | exact And.right (And.right (And.right (And.right (And.right (And.right (And.right (And.right (by assumption)))))))) | exact And.right (And.right (And.right (And.right (And.right (And.right (And.right (And.right (And.right (by assumption))))))))) | exact And.right (And.right (And.right (And.right (And.right (And.right (And.right (And.right (And.right (And.right (by assumption)))))))))) | exact And.right (And.right (And.right (And.right (And.right (And.right (And.right (And.right (And.right (And.right (And.right (by assumption))))))))))) | exact And.right (And.right (And.right (And.right (And.right (And.right (And.right (And.right (And.right (And.right (And.right (And.right (by assumption)))))))))))) | exact And.right (And.right (And.right (And.right (And.right (And.right (And.right (And.right (And.right (And.right (And.right (And.right (And.right (by assumption))))))))))))) | exact And.right (And.right (And.right (And.right (And.right (And.right (And.right (And.right (And.right (And.right (And.right (And.right (And.right (And.right (by assumption)))))))))))))) | exact And.right (And.right (And.right (And.right (And.right (And.right (And.right (And.right (And.right (And.right (And.right (And.right (And.right (And.right (And.right (by assumption))))))))))))))) | exact And.right (And.right (And.right (And.right (And.right (And.right (And.right (And.right (And.right (And.right (And.right (And.right (And.right (And.right (And.right (And.right (by assumption)))))))))))))))) | exact And.right (And.right (And.right (And.right (And.right (And.right (And.right (And.right (And.right (And.right (And.right (And.right (And.right (And.right (And.right (And.right (And.right (by assumption))))))))))))))))) | exact And.right (And.right (And.right (And.right (And.right (And.right (And.right (And.right (And.right (And.right (And.right (And.right (And.right (And.right (And.right (And.right (And.right (And.right (by assumption)))))))))))))))))) | exact AllLt.up (by assumption) (by k_extra "m_al")
  k_with "m_cells" => first | k_extra "m_cellsG" | (simp only [List.map_append, List.map_cons, List.cons_append, List.nil_append, List.mem_cons, List.map_nil, List.mem_append]; intro x hx; first | assumption | (rcases hx with hx | hx <;> simp only [hx, true_or, or_true]))
  k_with "m_grow" => first | (with_reducible exact Grow.refl) | (with_reducible refine Grow.add ?_ ?_; k_extra "m_grow"; exact cellsNe (by first | k_extra "m_lt" | omega) (by k_extra "m_al")) | (with_reducible refine Grow.transR (by assumption) ?_ ?_; k_extra "m_cells"; k_extra "m_grow")
  k_with "m_cell1" => (simp only [List.map_append, List.map_cons, List.cons_append, List.nil_append, List.mem_cons, List.map_nil, List.mem_append, true_or, or_true]; done)
  k_with "m_mem" => first | exact List.Mem.head _ | (refine List.Mem.tail _ ?_; k_extra "m_mem")
  k_with "m_sub" => (intro p hp; simp only [List.mem_cons, hp, or_true])
  k_with "m_ctx" => ((case N => k_asm); (case B => k_asm); (case F => k_asm); (case X => k_asm); (case T => k_asm); (case k => first | exact rfl | assumption); (case d => ktr_room); (case u => ktr_units))
  k_with "m_subR" => (intro p hp; simp only [List.mem_cons, List.mem_append, hp, or_true])
  k_with "m_memT" => first | assumption | exact List.Mem.head _ | (refine List.Mem.tail _ ?_; k_extra "m_memT")
  k_with "m_mq" => first | (with_reducible exact List.mem_cons_self) | ((with_reducible refine List.mem_cons_of_mem _ ?_); k_extra "m_mq") | ((with_reducible refine List.mem_append_left _ ?_); k_extra "m_mq") | ((with_reducible refine List.mem_append_right _ ?_); k_extra "m_mq") | (with_reducible assumption)
  k_with "m_sq" => first | (with_reducible exact fa_self) | ((with_reducible refine fa_tail ?_); k_extra "m_sq") | ((with_reducible refine fa_left ?_); k_extra "m_sq") | ((with_reducible refine fa_right ?_); k_extra "m_sq") | (with_reducible assumption)
  k_with "m_perm" => ((repeat' (with_reducible first | refine fa_cons ?_ ?_ | refine fa_app ?_ ?_ | exact fa_nil)); all_goals (first | k_extra "m_mq" | k_extra "m_sq"))
  k_with "m_cellsG" => ((try simp only [List.cons_append, List.nil_append, List.map_cons, List.map_append]); k_extra "m_perm")
  k_with "exec Assign cons ListComp" => walk_at "exec Assign"
  k_with "m_lt" => first | (with_reducible exact Nat.lt_succ_self _) | ((with_reducible refine Nat.lt_succ_of_lt ?_); k_extra "m_lt") | (with_reducible assumption) | (with_reducible exact And.left (by assumption)) | (with_reducible exact And.left (And.right (by assumption))) | (with_reducible exact And.left (And.right (And.right (by assumption)))) | (with_reducible exact And.left (And.right (And.right (And.right (by assumption))))) | (with_reducible exact And.left (And.right (And.right (And.right (And.right (by assumption)))))) | (with_reducible exact And.left (And.right (And.right (And.right (And.right (And.right (by assumption))))))) | (with_reducible exact And.left (And.right (And.right (And.right (And.right (And.right (And.right (by assumption)))))))) | (with_reducible exact And.left (And.right (And.right (And.right (And.right (And.right (And.right (And.right (by assumption))))))))) | (with_reducible exact And.left (And.right (And.right (And.right (And.right (And.right (And.right (And.right (And.right (by assumption)))))))))) | (with_reducible exact And.right (by assumption)) | (with_reducible exact And.right (And.right (by assumption))) | (with_reducible exact And.right (And.right (And.right (by assumption)))) | (with_reducible exact And.right (And.right (And.right (And.right (by assumption))))) | ((with_reducible refine Nat.lt_trans ?_ (by assumption)); k_extra "m_lt")
  k_with "m_ne" => first | (with_reducible assumption) | (with_reducible exact Ne.symm (by assumption)) | (with_reducible exact Ne.symm (And.left (by assumption))) | (with_reducible exact Ne.symm (And.left (And.right (by assumption)))) | (with_reducible exact And.left (by assumption)) | (with_reducible exact And.left (And.right (by assumption))) | exact Nat.ne_of_gt (by k_extra "m_lt") | exact Nat.ne_of_lt (by k_extra "m_lt") | omega
  k_with "m_rm" => first | (with_reducible exact room1 (by assumption) (Nat.le_of_ble_eq_true rfl)) | (with_reducible exact room2 (by assumption) (Nat.le_of_ble_eq_true rfl)) | (with_reducible exact room3 (by assumption) (Nat.le_of_ble_eq_true rfl)) | ((simp only [depth_under_make, depth_under_kw, depth_in1, depth_deeper, depth_caller, units_in1, units_deeper, Around.mark_units, units_caller]); (try dsimp only [ktrTop]); first | (with_reducible exact room1 (by assumption) (Nat.le_of_ble_eq_true rfl)) | (with_reducible exact room2 (by assumption) (Nat.le_of_ble_eq_true rfl)) | (with_reducible exact room3 (by assumption) (Nat.le_of_ble_eq_true rfl)))
  k_with "call builtin:dict.get" => (k_here; k_dflt (refine' kdf_get2 (by exact tab_of (by k_asm) (by k_mem) (by assumption) (by assumption) (by assumption)) ?_); intro _)
  k_with "exec For Name Call cons nil" => (k_here; walk_at "m_kF"; with_unfolding_all refine For_invTF (by first | with_reducible assumption | assumption) ?_ (by intro _; rfl))
  k_with "pyIter ref" => ((with_reducible show wpAny _ _ (pyIter (Value.ref _)) (fun it s₂ => LoopAtT _ _ _ _ _ _ _ _ _ it s₂) _ _); refine hold ?_)
  k_with "call ref cons nil" => (k_here; (with_reducible show wpAny _ _ (call (Value.ref 158) [Value.ref _, _]) _ _ _); refine hold ?_)
  k_with "call ref cons nil" => (k_here; (with_reducible show wpAny _ _ (call (Value.ref 212) [_]) _ _ _); refine hold ?_)
  k_with "subscriptTail" => (k_here; (with_reducible show wpAny _ _ (subscriptTail _ _ (Value.ref _) (Value.int (Nat.cast _) _)) _ _ _); k_dflt (refine' m_itemAt (by k_asm) (by k_mem) (by assumption) (by omega) ?_))
  k_with "compareOp In" => (k_here; (with_reducible show wpAny _ _ (compareOp CmpOp.In (Value.int _ _) (Value.ref _)) _ _ _); k_dflt (refine' in_list_ints (by exact isList_led (by k_asm) (by k_mem)) (by assumption) ?_))
  (have kf : PySem.Challenge.rw_nm0006_01.Holds → Mine.hd.heap_39 w.params = Mine.hd.heap_39 w.params := by k_fill; intro; rfl); clear kf
  intro dp un gd cn cs a ccd cl outer A₀ base h₀ L m mean mg mb news s Q E B F X N T hk hpre hd hu hret
  obtain ⟨hf, hok, hbs, hbok, hbl⟩ := hpre
  have hv : ∃ fx, v = .ref fx := by cases hf; exact ⟨_, rfl⟩
  obtain ⟨fx, rfl⟩ := hv
  have hv : ∃ fx, v2 = .ref fx := by obtain ⟨al, _, _, rfl, _⟩ := hbs; exact ⟨_, rfl⟩
  obtain ⟨bx, rfl⟩ := hv
  refine wpAny_call ?_
  k_dflt ktr_enter
  k_steps
  unfold Hold
  have eN : ∀ b ∈ bs, BlockOk nn b := hbok
  k_dflt (refine' mkUsage (d := d) (bs := bs) (nn := nn) ?B ?F ?X ?N ?T ?k ?hf ?hbs ?hok ?hbok ?hbl ?d ?u ?_; k_extra "m_ctx"; (case hf => assumption); (case hbs => assumption); (case hok => assumption); (case hbok => assumption); (case hbl => assumption))
  rintro x dx ua aa sa o1 o2 o3 h1 h2 h3 t1 t2 t3 ks h' tk' F2 N2 s1 s2 s3 D1 D2 hperm D3
  obtain ⟨R1, hR1⟩ : ∃ R : Led, R = (x, instObj 158 dx) :: (dx, usageDict h1 h2 h3 t1 t2 t3 (.ref ua) (.ref aa) (.ref sa)) :: (ua, o1) :: (aa, o2) :: (sa, o3) :: news := ⟨_, rfl⟩
  have hU : UsageAt w R1 x (usage0 d.params bs).uses (usage0 d.params bs).addr (ks.foldl (delU (usage0 d.params bs).sets) (usage0 d.params bs).slots) := by
    rw [hR1]; exact .mk (.head _) (.tail _ (.head _)) (.tail _ (.tail _ (.head _))) (.tail _ (.tail _ (.tail _ (.head _)))) (.tail _ (.tail _ (.tail _ (.tail _ (.head _))))) s1 s2 s3 D1 D2 D3
  have hs1 : ∀ p, p ∈ news → p ∈ R1 := by rw [hR1]; k_extra "m_sq"
  rw [← hR1] at N2
  clear hR1
  have hf1 := hf.mono hs1
  have hbs1 : BlocksAt R1 (.ref bx) bs := by obtain ⟨al, vs, n, e, q1, q2⟩ := hbs; exact ⟨al, vs, n, e, hs1 _ q1, q2.imp fun _ _ => BlockAt.mono hs1⟩
  have hargs := hbs.args
  k_steps
  unfold Hold
  k_dflt (refine' counts (bs := bs) (nn := nn) ?B ?F ?X ?N ?T ?k ?hbs ?hbok ?hbl ?d ?u ?_; k_extra "m_ctx"; (case hbs => assumption); (case hbok => assumption); (case hbl => assumption))
  rintro ct ul rl sl pl v1 v2 v3 v4 n1 n2 n3 n4 h'' tk'' F3 N3 A1 A2 A3 A4
  obtain ⟨R2, hR2⟩ : ∃ R : Led, R = (ct, tup [.ref ul, .ref rl, .ref sl, .ref pl]) :: (ul, listOf (List.toArray v1) n1) :: (rl, listOf (List.toArray v2) n2) :: (sl, listOf (List.toArray v3) n3) :: (pl, listOf (List.toArray v4) n4) :: R1 := ⟨_, rfl⟩
  have hs2 : ∀ p, p ∈ R1 → p ∈ R2 := by rw [hR2]; k_extra "m_sq"
  have hU2 := hU.mono hs2
  have hf2 := hf1.mono hs2
  have mct : (ct, tup [.ref ul, .ref rl, .ref sl, .ref pl]) ∈ R2 := by rw [hR2]; exact .head _
  have mul : (ul, listOf (List.toArray v1) n1) ∈ R2 := by rw [hR2]; exact .tail _ (.head _)
  have mrl : (rl, listOf (List.toArray v2) n2) ∈ R2 := by rw [hR2]; exact .tail _ (.tail _ (.head _))
  have msl : (sl, listOf (List.toArray v3) n3) ∈ R2 := by rw [hR2]; exact .tail _ (.tail _ (.tail _ (.head _)))
  have mpl : (pl, listOf (List.toArray v4) n4) ∈ R2 := by rw [hR2]; exact .tail _ (.tail _ (.tail _ (.tail _ (.head _))))
  rw [← hR2] at N3
  clear hR2 hU hf1 hbs1 hf hbs N2 F2
  k_steps
  unfold Hold
  rename_i ra rb rc hrL FL NL hkL
  have NL2 : News _ _ _ R2 := fun p hp => NL p (.tail _ hp)
  clear NL
  refine iter_range (n := 6) (fun i m₁ nw => R2 = nw ∧ m₁ (Str.ofString "drawn") = some (.ref fx) ∧ m₁ (Str.ofString "said") = some (.ref x) ∧ m₁ (Str.ofString "counts") = some (.ref ct)) (by rfl) hrL (by omega) (fun _ _ => rfl) FL NL2 ?hjA ?turnA ?doneA
  case hjA => exact ⟨rfl, rfl, rfl, rfl⟩
  case turnA =>
    rintro i t m₁ nw s₁ I oI hi ⟨rfl, hm1, hm2, hm3⟩ off F4 N4
    obtain ⟨m₀, rfl⟩ := map3 hm1 hm2 hm3
    obtain ⟨e1, e2, e3, e4⟩ := usage_law (ps := d.params) hbok hargs hperm (k := i) hi
    obtain ⟨z1, z2, z3, z4⟩ := cnt_len hbok hargs
    obtain ⟨ta, ha⟩ := all2_at A1 (j := i) (by omega)
    obtain ⟨tb, hb⟩ := all2_at A2 (j := i) (by omega)
    obtain ⟨tc, hc⟩ := all2_at A3 (j := i) (by omega)
    obtain ⟨td, hd⟩ := all2_at A4 (j := i) (by omega)
    rw [← e1] at ha
    rw [← e2] at hb
    have hl1 : v1.length = 6 := A1.length.trans z1
    have hl2 : v2.length = 6 := A2.length.trans z2
    have hl3 : v3.length = 6 := A3.length.trans z3
    have hl4 : v4.length = 6 := A4.length.trans z4
    obtain @⟨fx, fdx, bl, f1, f2, f3, f4, f5, f6, f7, g1, g2, g3, g4, g5, g6, g7, g8, vn, vp, vs, _, bvs, bn, hfx, hfdx, hfp, hfs, hfbl, hfb2⟩ := hf2
    obtain ⟨fpl, pvs, pn, rfl, hpl, hpv⟩ := hfp
    have hpi := ints_of hpv
    rw [← any_isIn] at e3 e4
    clear e1 e2 z1 z2 z3 z4 A1 A2 A3 A4 hargs hperm D1 D2 D3 s1 s2 s3 eN hret FL NL2 hkL hrL
    generalize (usage0 d.params bs).uses = c1 at *
    generalize (usage0 d.params bs).addr = c2 at *
    generalize ks.foldl (delU (usage0 d.params bs).sets) (usage0 d.params bs).slots = c3 at *
    generalize (counts0 bs).s.getD i 0 = s0 at *
    generalize (counts0 bs).p.getD i 0 = p0 at *
    have hU3 := hU2
    obtain @⟨dx, ua, aa, sa, o1, o2, o3, h1, h2, h3, t1, t2, t3, hx, hdx, m1, m2, m3, lu, la, ls, ⟨hd1, hf1⟩, ⟨hd2, hf2⟩, ⟨hd3, hf3⟩⟩ := hU3
    k_steps
    all_goals first
      | exact TurnEnd.intro (nw := R2) (by assumption) (by assumption) (by k_extra "m_perm") off ⟨rfl, rfl, rfl, rfl⟩
      | exact absurd rfl (by assumption : kdfLook c1 i 0 ≠ kdfLook c1 i 0)
      | exact absurd rfl (by assumption : kdfLook c2 i 0 ≠ kdfLook c2 i 0)
      | exact absurd (by rw [e3, if_pos (by assumption)]) (by assumption : kdfLook c3 i (-1) ≠ p0)
      | exact absurd (by rw [e3, if_neg (by assumption)]) (by assumption : kdfLook c3 i (-1) ≠ -1)
      | (have qa : (s0 + if (d.params.any fun x => x == (i : Int)) = true then 1 else 0) = 1 := by assumption
         rw [if_pos qa] at e4
         have qb : (onlyB c1 c2 c3 i != (kdfLook c1 i 0 == kdfLook c2 i 0)) = true := by assumption
         rw [onlyB_pos e4 (by assumption)] at qb
         cases qb)
      | (have qa : (s0 + if (d.params.any fun x => x == (i : Int)) = true then 1 else 0) = 1 := by assumption
         rw [if_pos qa] at e4
         have qb : (onlyB c1 c2 c3 i != decide (0 ≤ p0)) = true := by assumption
         rw [onlyB_neg e4 (by assumption)] at qb
         cases qb)
      | (have qa : (s0 + if (d.params.any fun x => x == (i : Int)) = true then 1 else 0) ≠ 1 := by assumption
         rw [if_neg qa] at e4
         have qb : (onlyB c1 c2 c3 i != decide ((0 : Int) ≤ -1)) = true := by assumption
         rw [onlyB_neg e4 (by omega)] at qb
         cases qb)
  case doneA =>
    rintro m₁ nw h tk ⟨rfl, hm1, hm2, hm3⟩ F4 N4
    k_steps
    rename_i tk9 kFr kNr _ _
    exact hret _ _ _ kFr (fun p hp => kNr p (hs2 _ (hs1 _ hp))) rfl
end
end
section
open PySem PySem.Calls PySem.W PyProof.Rows
/-- a written tuple -/
abbrev tupW (its : List Value) : Obj := { cls := .type "tuple", data := .seq its.toArray }
/-- a comprehension with one test over a tuple that stands in the ledger -/
def TupSrc (prog : Program) (w : World) (A : Around) (h₀ : Heap) (L : Addr) (m : Str → Option Value) (env : Env) (ct elt : Expr) (x : Str) (scope : Scope) (cl : List (Str × Addr)) (Fin : Shared → List Value → Led → Prop) (xv : Value) (s₁ : Shared) : Prop :=
  ∃ ax its news, xv = .ref ax ∧ A.handled = none ∧ Fr h₀ L s₁.heap m ∧ News h₀ L s₁.heap news ∧ (ax, tupW its) ∈ news ∧ its.length ≤ 10000 ∧
    ∀ s₂ : Shared, (∃ h, s₂ = { s₁ with heap := h }) → LCt.CompRestT prog w A h₀ L m env ct elt x scope cl s₂ (fun nw => (ax, tupW its) ∈ nw) (fun i v => its.toArray[i]? = some v) (Fin s₂) its.toArray.size 0 [] news
section
variable {prog : Program} {w : World} {A : Around} {s : Shared} {h₀ : Heap} {L : Addr} {m : Str → Option Value} {env : Env}
theorem is_tup {h : Heap} {ax : Addr} {its : List Value} {news : Led} (N : News h₀ L h news) (hm : (ax, tupW its) ∈ news) : h.IsTuple ax its.toArray := ⟨_, (N _ hm).1, rfl, _, rfl⟩
theorem compT_tupA {E : Value → Shared → Prop} {ct elt iter : Expr} {x y : Str} {px py : Pos} {scope : Scope} {cl : List (Str × Addr)} {pos spos : Pos} {Q : Flow → Shared → Prop} (_F₀ : Fr h₀ L s.heap m) (hLe : env.locals = L)
    (hsw : swapsWith (.ListComp elt [⟨.Name x px, iter, [ct], 0⟩] scope pos) (some (.Name y py)) spos.line env = pure true)
    (hclos : closureFor scope env = pure cl) (hcell : ∀ z ∈ scope.names, z.2 ≠ .cell) (hkind : scope.kind = .function)
    (hnames : ∀ z ∈ scope.names, z.2 = .local → scope.names.lookup z.1 = some .local) (hx : scope.names.lookup x = some .local)
    (hy : env.kindOf y = some .local) (hp : (env.scope.kind == .class || (env.scope.kind == .module && env.locals != env.globals)) = false)
    (h : wpAny (model prog w) A (eval iter env) (fun xv s₁ => Hold (TupSrc prog w A h₀ L m env ct elt x scope cl (fun s₂ => LCg.FinA h₀ L m s₂ y Q) xv s₁)) E s)
    (hs : ∀ x, foldedSetIterable iter env x = pure x := by intro _; rfl) :
    wpAny (model prog w) A (exec (.Assign [.Name y py] (.ListComp elt [⟨.Name x px, iter, [ct], 0⟩] scope pos) spos) env) Q E s := by
  subst hLe
  rw [exec_Assign_Name_used _ _ _ _ hsw]
  refine wpAny_bind (wpAny_standAt (wpAny_bind ?_))
  show wpAny _ A (do let _ ← comprehension (.ListComp elt [⟨.Name x px, iter, [ct], 0⟩] scope pos) scope env _ (newList []) false (eval iter env) (some (assign (.Name y py) env))) _ _ s
  refine wpAny_bind (wpAny_mono (wpAny_comprehension_free (use := some (assign (.Name y py) env)) (Q := fun _ s' => Q .next s') rfl hs hclos hkind hnames
    (wpAny_mono h (fun xv s₁ h₁ => ?_) fun _ _ e => e)) (fun _ s' hq => wpAny_pure (wpAny_pure hq)) fun _ _ e => e)
  obtain ⟨ax, its, news, rfl, hh, F, N, hm, hsz, R⟩ := h₁
  have ht := is_tup N hm
  have hlt : ax < s₁.heap.objs.size := Heap.lt_size (N _ hm).1
  have hne : ax ≠ s₁.heap.objs.size := Nat.ne_of_lt hlt
  refine wpAny_pyIter_tuple ht ?_
  have up : ∀ b o, s₁.heap.get? b = some o → (s₁.heap.push { cls := .type "tuple_iterator", data := .fields #[.ref ax, .int 0 0] }).get? b = some o := fun b o e => Heap.get?_push_of_some _ e
  have W := Walks.tuple (prog := prog) (w := w) hh s₁.heap.objs.size ax hne its.toArray
  refine LCt.block_T W (by rw [List.size_toArray, sizeLine_eq]; omega) (fun i h st => ⟨_, st.1.choose_spec.1⟩) ?st hcell hkind hx ⟨⟨_, Heap.get?_push_size _ rfl, rfl, rfl⟩, ht.push _⟩ ?fp
    (F.keeps up) (N.grown up) (Nat.ne_of_lt F.ns.lt) (next_is_new F) (fun p hp => Nat.ne_of_lt (Heap.lt_size (N p hp).1)) hm (R _ ⟨_, rfl⟩) ?fin
  case st =>
    intro i g g' o nw st e e' k N' S
    obtain ⟨o2, q, r⟩ := st.1
    rw [e] at q
    cases q
    exact ⟨⟨o, e', r⟩, is_tup N' S⟩
  case fp =>
    intro b hb
    show b < (s₁.heap.push _).objs.size
    rw [Heap.size_push]
    simp only [List.mem_cons, List.not_mem_nil, or_false] at hb
    rcases hb with rfl | rfl
    · exact Nat.lt_succ_self _
    · exact Nat.lt_succ_of_lt hlt
  case fin =>
    intro D C g tk m' ys nw F' N' o1 hn hC₀ _ hCL _ hCD offC fin
    show wpAny _ A (assign (.Name y py) env (.ref D)) _ _ _
    refine wpAny_assign_Name (wpAny_storeName_local hy F'.ns (fun h₂ hn₂ hs₂ => ?_) hp)
    have hL₀ : h₀.get? env.locals = none := Heap.get?_none_of_le F'.above
    have F₂ : Fr h₀ env.locals h₂ (fun z => if z = y then some (.ref D) else m z) := ⟨hn₂, fun b o e => hs₂.extBut b o (fun q => by rw [q, hL₀] at e; cases e) (F'.keep b o e), F'.above⟩
    refine ⟨m', hn.sameBut hs₂ hCL, fun g' hs' => fin D g' _ (F₂.change hs' hCL hC₀) (fun p hp => ?_) o1⟩
    have z : h₂.get? p.1 = some p.2 := hs₂.extBut _ _ (N' p hp).2.1 (N' p hp).1
    refine ⟨hs'.extBut _ _ ?_ z, (N' p hp).2⟩
    rcases List.mem_cons.mp hp with rfl | hp
    · exact Ne.symm hCD
    · exact offC p hp
/-- its turns told by an invariant -/
theorem comp_tup {ct elt : Expr} {x : Str} {scope : Scope} {cl : List (Str × Addr)} {Fin : Shared → List Value → Led → Prop} {ax : Addr} {its : List Value} {news : Led} {s₁ : Shared} (J : Nat → List Value → Led → Prop)
    (hh : A.handled = none) (F : Fr h₀ L s₁.heap m) (N : News h₀ L s₁.heap news) (hm : (ax, tupW its) ∈ news) (hsz : its.length ≤ 10000) (hJm : ∀ i ys nw, J i ys nw → (ax, tupW its) ∈ nw) (hj : J 0 [] news)
    (turn : ∀ i v ys nw I oI C oC D m₂ h tk (E' : Value → Shared → Prop), its[i]? = some v → J i ys nw → LCg.NsObj oC m₂ → m₂ x = some v → Fr h₀ L h m → News h₀ L h ((I, oI) :: (C, oC) :: (D, LCg.lst ys) :: nw) → LCg.Off3 I C D nw →
      wpAny (model prog w) A (isTrue ct (compEnvC scope cl C env) (eval ct (compEnvC scope cl C env))) (fun ok s' => if ok = true then
        wpAny (model prog w) A (eval elt (compEnvC scope cl C env)) (REnd h₀ L m { s₁ with heap := h, toks := tk } I oI C oC D (LCg.lst ys) (fun y nw' => J (i + 1) (ys ++ [y]) nw')) E' s'
        else REnd h₀ L m { s₁ with heap := h, toks := tk } I oI C oC D (LCg.lst ys) (fun _ nw' => J (i + 1) ys nw') Value.none s') E' { s₁ with heap := h, toks := tk })
    (fin : ∀ g ys nw, J its.length ys nw → Fin { s₁ with heap := g } ys nw) : TupSrc prog w A h₀ L m env ct elt x scope cl Fin (.ref ax) s₁ := by
  refine ⟨ax, its, news, rfl, hh, F, N, hm, hsz, ?_⟩
  rintro _ ⟨g, rfl⟩
  have go : ∀ k i ys nw, i + k = its.length → J i ys nw → LCt.CompRestT prog w A h₀ L m env ct elt x scope cl { s₁ with heap := g } (fun nw => (ax, tupW its) ∈ nw) (fun i v => its.toArray[i]? = some v) (Fin { s₁ with heap := g }) k i ys nw := by
    intro k
    induction k with
    | zero =>
      intro i ys nw h hJ
      have hi : i = its.length := by omega
      subst hi
      exact fin _ _ _ hJ
    | succ k ih =>
      intro i ys nw h hJ
      refine LCt.CompRestT.succ ?_
      intro v I oI C oC D m₂ hp tk E' hP hC hx F' N' off _
      refine wpAny_mono (turn i v ys nw I oI C oC D m₂ hp tk E' (by simpa using hP) hJ hC hx F' N' off) (fun ok s₂ h₂ => ?_) fun _ _ e => e
      by_cases hok : ok = true
      · rw [if_pos hok] at h₂ ⊢
        refine wpAny_mono h₂ (fun y s₃ h₃ => ?_) fun _ _ e => e
        cases h₃ with
        | mk F₃ N₃ sub off₃ J₃ => exact LCg.CompEnd.intro F₃ N₃ _ sub off₃ (hJm _ _ _ J₃) (ih _ _ _ (by omega) J₃)
      · rw [if_neg hok] at h₂ ⊢
        cases h₂ with
        | mk F₃ N₃ sub off₃ J₃ => exact LCg.CompEnd.intro F₃ N₃ _ sub off₃ (hJm _ _ _ J₃) (ih _ _ _ (by omega) J₃)
  have e := go its.length 0 [] news (by omega) hj
  rw [List.size_toArray]
  exact e
theorem dend_rend {I C D wa nm : Addr} {oI oC oD o : Obj} {ex2 rest₀ rest : Led} {b' : Int} {s₁ : Shared} {PJ : Value → Led → Prop} (oI3 : Off I ((wa, o) :: (ex2 ++ rest))) (oC3 : Off C ((wa, o) :: (ex2 ++ rest))) (oD3 : Off D ((wa, o) :: (ex2 ++ rest)))
    (G : Grow (wa :: ex2.map (·.1)) rest₀ rest) (off : Off wa (ex2 ++ rest)) (I' : NumsAt nm rest) {y : Value} {s₂ : Shared} (h : DEnd h₀ L m s₁ I oI C oC D oD wa nm ex2 rest b' PJ y s₂) :
    REnd h₀ L m s₁ I oI C oC D oD (fun y news => ∃ o rest, news = (wa, o) :: (ex2 ++ rest) ∧ Grow (wa :: ex2.map (·.1)) rest₀ rest ∧ Off wa (ex2 ++ rest) ∧ WellObj nm b' o ∧ NumsAt nm rest ∧ PJ y rest) y s₂ := by
  cases h with
  | mk F' N' sub G' W' J' =>
    have key : ∀ z, z ∈ I :: C :: D :: wa :: ex2.map (·.1) → Off z (ex2 ++ rest) → Off z (ex2 ++ _) := fun z hz ho => G'.off hz ho
    exact REnd.mk F' N' sub (off3_iff.mpr
      ⟨off_cons.mpr ⟨(off_cons.mp oI3).1, key I (.head _) (off_cons.mp oI3).2⟩, off_cons.mpr ⟨(off_cons.mp oC3).1, key C (.tail _ (.head _)) (off_cons.mp oC3).2⟩, off_cons.mpr ⟨(off_cons.mp oD3).1, key D (.tail _ (.tail _ (.head _))) (off_cons.mp oD3).2⟩⟩)
      ⟨_, _, rfl, Grow.trans G (G'.less fun x hx => .tail _ (.tail _ (.tail _ hx))) (fun _ h => h), key wa (.tail _ (.tail _ (.tail _ (.head _)))) off, W', I'.mono G'.1, J'⟩
/-- a comprehension with a test over a tuple whose turns draw -/
theorem comp_tup_draw {ct elt : Expr} {x : Str} {scope : Scope} {cl : List (Str × Addr)} {Fin : Shared → List Value → Led → Prop} {ax wa nm : Addr} {its : List Value} {ex2 rest₀ : Led} {o₀ : Obj} {b k : Int} {s₁ : Shared} (PJ : Nat → List Value → Led → Prop)
    (hh : A.handled = none) (F : Fr h₀ L s₁.heap m) (N : News h₀ L s₁.heap ((wa, o₀) :: (ex2 ++ rest₀))) (hm : (ax, tupW its) ∈ ex2) (hsz : its.length ≤ 10000) (off₀ : Off wa (ex2 ++ rest₀)) (W₀ : WellObj nm b o₀) (I₀ : NumsAt nm rest₀) (J₀ : PJ 0 [] rest₀)
    (turn : ∀ (i : Nat) v ys I oI C oC D m₂ h tk (E' : Value → Shared → Prop) o rest, its[i]? = some v → Sub rest₀ rest → Off wa (ex2 ++ rest) → WellObj nm (b + k * i) o → NumsAt nm rest → PJ i ys rest → LCg.NsObj oC m₂ → m₂ x = some v → Fr h₀ L h m →
      News h₀ L h ((I, oI) :: (C, oC) :: (D, LCg.lst ys) :: (wa, o) :: (ex2 ++ rest)) → (@Ne Nat I wa) → (@Ne Nat C wa) → (@Ne Nat D wa) →
      wpAny (model prog w) A (isTrue ct (compEnvC scope cl C env) (eval ct (compEnvC scope cl C env))) (fun ok s' => if ok = true then
        wpAny (model prog w) A (eval elt (compEnvC scope cl C env)) (DEnd h₀ L m { s₁ with heap := h, toks := tk } I oI C oC D (LCg.lst ys) wa nm ex2 rest (b + k * (i + 1 : Nat)) (fun y r => PJ (i + 1) (ys ++ [y]) r)) E' s'
        else DEnd h₀ L m { s₁ with heap := h, toks := tk } I oI C oC D (LCg.lst ys) wa nm ex2 rest (b + k * (i + 1 : Nat)) (fun _ r => PJ (i + 1) ys r) Value.none s') E' { s₁ with heap := h, toks := tk })
    (fin : ∀ g ys o rest, Grow (wa :: ex2.map (·.1)) rest₀ rest → Off wa (ex2 ++ rest) → WellObj nm (b + k * its.length) o → NumsAt nm rest → PJ its.length ys rest → Fin { s₁ with heap := g } ys ((wa, o) :: (ex2 ++ rest))) :
    TupSrc prog w A h₀ L m env ct elt x scope cl Fin (.ref ax) s₁ := by
  refine comp_tup (fun i ys news => ∃ o rest, news = (wa, o) :: (ex2 ++ rest) ∧ Grow (wa :: ex2.map (·.1)) rest₀ rest ∧ Off wa (ex2 ++ rest) ∧ WellObj nm (b + k * i) o ∧ NumsAt nm rest ∧ PJ i ys rest) hh F N (.tail _ (List.mem_append_left _ hm)) hsz
    (by rintro i ys _ ⟨o, rest, rfl, _⟩; exact .tail _ (List.mem_append_left _ hm)) ⟨o₀, rest₀, rfl, Grow.refl, off₀, by simpa using W₀, I₀, J₀⟩ ?_ ?_
  · rintro i v ys news I oI C oC D m₂ h tk E' hP ⟨o, rest, rfl, G, off, W, I', J⟩ hC hx F' N' off3
    rw [off3_iff] at off3
    obtain ⟨oI3, oC3, oD3⟩ := off3
    refine wpAny_mono (turn i v ys I oI C oC D m₂ h tk E' o rest hP G.1 off W I' J hC hx F' N' (Ne.symm (oI3 _ (.head _))) (Ne.symm (oC3 _ (.head _))) (Ne.symm (oD3 _ (.head _)))) (fun ok s₂ h₂ => ?_) fun _ _ e => e
    by_cases hok : ok = true
    · rw [if_pos hok] at h₂ ⊢
      exact wpAny_mono h₂ (fun y s₃ h₃ => dend_rend oI3 oC3 oD3 G off I' h₃) fun _ _ e => e
    · rw [if_neg hok] at h₂ ⊢
      exact dend_rend (PJ := fun _ r => PJ (i + 1) ys r) oI3 oC3 oD3 G off I' h₂
  · rintro g ys _ ⟨o, rest, rfl, G, off, W, I', J⟩
    exact fin g ys o rest G off W I' J
end
end
section
section
theorem All2.take {α β : Type} {R : α → β → Prop} : ∀ {l : List α} {l' : List β} (i : Nat), All2 R l l' → All2 R (l.take i) (l'.take i)
  | _, _, 0, _ => .nil
  | _, _, _ + 1, .nil => .nil
  | _, _, i + 1, .cons x y => .cons x (y.take i)
theorem m_first1 (vs : List Value) : (slicePick vs.toArray none (some 1) none).toList = vs.take 1 := by
  have e : sliceBounds none (some 1) none vs.toArray.size = (((0 : Nat) : Int), ((min 1 vs.toArray.size : Nat) : Int), 1) := by
    simp only [sliceBounds, Option.getD_none, show (1 : Int) > 0 by decide, if_true, if_neg (show ¬ ((1 : Int) < 0) by omega)]
    congr 1
    congr 1
    omega
  rw [kmk_pick_nat _ e]
  show (vs.drop 0).take (min 1 vs.toArray.size - 0) = _
  rw [List.drop_zero, Nat.sub_zero, List.size_toArray, kmk_take_min]
local macro_rules | `(tactic| walk_at "subscriptTail") => `(tactic| (k_here; (with_reducible show wpAny _ _ (subscriptTail _ (PySem.Expr.Slice _ _ none _) (Value.ref _) (Value.ref _)) _ _ _); k_dflt (refine kba_turn (value' := PySem.Expr.Name (PySem.Str.ofString "_") ⟨0, 0, 0, 0⟩) (fun _ => rfl) ?_); k_dflt (refine' kmk_slice_lit ?F ?N ?l ?p ?q ?e ?_ ?s ?t ?z; (case F => k_asm); (case N => k_asm); (case l => exact isList_led (by k_asm) (by k_mem)); (case p => exact IsPart.none); (case q => exact IsPart.int _ _); (case e => exact m_first1 _); (case s => with_unfolding_all rfl); (case t => (intro _; with_unfolding_all rfl)); (case z => (rw [List.size_toArray, sizeLine_eq]; omega))); intro D' h' F' N' l1; (try k_lt l1); (try k_sweep)))
local macro_rules | `(tactic| walk_at "m_x") => `(tactic| skip)
theorem lawT : PySem.Challenge.rw_nm0006_01.Holds := Mine.hd (by
  w_top off
  k_with_none
  k_with "m_rst" => first | (with_reducible apply Rst.nil) | (with_reducible apply Rst.cons; k_extra "m_rst")
  k_with "m_pick" => first | (with_reducible apply Pick.head; k_extra "m_rst") | (with_reducible apply Pick.tail; k_extra "m_pick")
  k_with "m_draw" => (
  (case N => k_asm); (case P => k_extra "m_pick"); (case B => k_asm); (case F => k_asm); (case X => k_asm);
  (case off => ((try simp only [List.nil_append, List.cons_append]); k_all)); (case T => k_asm); (case k => first | exact rfl | assumption); (case W => assumption); (case I => assumption);
  (case b => omega); (case d => ktr_room); (case u => ktr_units))
  k_with "m_al" => first | assumption | exact And.right (by assumption) | exact And.right (And.right (by assumption)) | exact And.right (And.right (And.right (by assumption))) | exact And.right (And.right (And.right (And.right (by assumption)))) | exact And.right (And.right (And.right (And.right (And.right (by assumption))))) | exact And.right (And.right (And.right (And.right (And.right (And.right (by assumption)))))) | exact And.right (And.right (And.right (And.right (And.right (And.right (And.right (by assumption))))))) | exact And.right (And.right (And.right (And.right (And.right (And.right (And.right (And.right (by assumption)))))))) | exact And.right (And.right (And.right (And.right (And.right (And.right (And.right (And.right (And.right (by assumption))))))))) | exact And.right (And.right (And.right (And.right (And.right (And.right (And.right (And.right (And.right (And.right (by assumption)))))))))) | exact And.right (And.right (And.right (And.right (And.right (And.right (And.right (And.right (And.right (And.right (And.right (by assumption))))))))))) | exact And.right (And.right (And.right (And.right (And.right (And.right (And.right (And.right (And.right (And.right (And.right (And.right (by assumption)))))))))))) | exact And.right (And.right (And.right (And.right (And.right (And.right (And.right (And.right (And.right (And.right (And.right (And.right (And.right (by assumption))))))))))))) | exact And.right (And.right (And.right (And.right (And.right (And.right (And.right (And.right (And.right (And.right (And.right (And.right (And.right (And.right (by assumption)))))))))))))) | exact And.right (And.right (And.right (And.right (And.right (And.right (And.right (And.right (And.right (And.right (And.right (And.right (And.right (And.right (And.right (by assumption))))))))))))))) | exact And.right (And.right (And.right (And.right (And.right (And.right (And.right (And.right (And.right (And.right (And.right (And.right (And.right (And.right (And.right (And.right (by assumption)))))))))))))))) | exact And.right (And.right (And.right (And.right (And.right (And.right (And.right (And.right (And.right (And.right (And.right (And.right (And.right (And.right (And.right (And.right (And.right (by assumption))))))))))))))))) | exact And.right (And.right (And.right (And.right (And.right (And.right (And.right (And.right (And.right (And.right (And.right (And.right (And.right (And.right (And.right (And.right (And.right (And.right (by assumption)))))))))))))))))) | exact AllLt.up (by assumption) (by k_extra "m_al")
  k_with "m_cells" => first | k_extra "m_cellsG" | (simp only [List.map_append, List.map_cons, List.cons_append, List.nil_append, List.mem_cons, List.map_nil, List.mem_append]; intro x hx; first | assumption | (rcases hx with hx | hx <;> simp only [hx, true_or, or_true]))
  k_with "m_grow" => first | (with_reducible exact Grow.refl) | (with_reducible refine Grow.add ?_ ?_; k_extra "m_grow"; exact cellsNe (by first | k_extra "m_lt" | omega) (by k_extra "m_al")) | (with_reducible refine Grow.transR (by assumption) ?_ ?_; k_extra "m_cells"; k_extra "m_grow")
  k_with "m_cell1" => (simp only [List.map_append, List.map_cons, List.cons_append, List.nil_append, List.mem_cons, List.map_nil, List.mem_append, true_or, or_true]; done)
  k_with "m_mem" => first | exact List.Mem.head _ | (refine List.Mem.tail _ ?_; k_extra "m_mem")
  k_with "m_sub" => (intro p hp; simp only [List.mem_cons, hp, or_true])
  k_with "m_ctx" => ((case N => k_asm); (case B => k_asm); (case F => k_asm); (case X => k_asm); (case T => k_asm); (case k => first | exact rfl | assumption); (case d => ktr_room); (case u => ktr_units))
  k_with "m_subR" => (intro p hp; simp only [List.mem_cons, List.mem_append, hp, or_true])
  k_with "m_memT" => first | assumption | exact List.Mem.head _ | (refine List.Mem.tail _ ?_; k_extra "m_memT")
  k_with "m_mq" => first | (with_reducible exact List.mem_cons_self) | ((with_reducible refine List.mem_cons_of_mem _ ?_); k_extra "m_mq") | ((with_reducible refine List.mem_append_left _ ?_); k_extra "m_mq") | ((with_reducible refine List.mem_append_right _ ?_); k_extra "m_mq") | (with_reducible assumption)
  k_with "m_sq" => first | (with_reducible exact fa_self) | ((with_reducible refine fa_tail ?_); k_extra "m_sq") | ((with_reducible refine fa_left ?_); k_extra "m_sq") | ((with_reducible refine fa_right ?_); k_extra "m_sq") | (with_reducible assumption)
  k_with "m_perm" => ((repeat' (with_reducible first | refine fa_cons ?_ ?_ | refine fa_app ?_ ?_ | exact fa_nil)); all_goals (first | k_extra "m_mq" | k_extra "m_sq"))
  k_with "m_cellsG" => ((try simp only [List.cons_append, List.nil_append, List.map_cons, List.map_append]); k_extra "m_perm")
  k_with "exec Assign cons ListComp" => walk_at "exec Assign"
  k_with "m_lt" => first | (with_reducible exact Nat.lt_succ_self _) | ((with_reducible refine Nat.lt_succ_of_lt ?_); k_extra "m_lt") | (with_reducible assumption) | (with_reducible exact And.left (by assumption)) | (with_reducible exact And.left (And.right (by assumption))) | (with_reducible exact And.left (And.right (And.right (by assumption)))) | (with_reducible exact And.left (And.right (And.right (And.right (by assumption))))) | (with_reducible exact And.left (And.right (And.right (And.right (And.right (by assumption)))))) | (with_reducible exact And.left (And.right (And.right (And.right (And.right (And.right (by assumption))))))) | (with_reducible exact And.left (And.right (And.right (And.right (And.right (And.right (And.right (by assumption)))))))) | (with_reducible exact And.left (And.right (And.right (And.right (And.right (And.right (And.right (And.right (by assumption))))))))) | (with_reducible exact And.left (And.right (And.right (And.right (And.right (And.right (And.right (And.right (And.right (by assumption)))))))))) | (with_reducible exact And.right (by assumption)) | (with_reducible exact And.right (And.right (by assumption))) | (with_reducible exact And.right (And.right (And.right (by assumption)))) | (with_reducible exact And.right (And.right (And.right (And.right (by assumption))))) | ((with_reducible refine Nat.lt_trans ?_ (by assumption)); k_extra "m_lt")
  k_with "m_ne" => first | (with_reducible assumption) | (with_reducible exact Ne.symm (by assumption)) | (with_reducible exact Ne.symm (And.left (by assumption))) | (with_reducible exact Ne.symm (And.left (And.right (by assumption)))) | (with_reducible exact And.left (by assumption)) | (with_reducible exact And.left (And.right (by assumption))) | exact Nat.ne_of_gt (by k_extra "m_lt") | exact Nat.ne_of_lt (by k_extra "m_lt") | omega
  k_with "m_rm" => first | (with_reducible exact room1 (by assumption) (Nat.le_of_ble_eq_true rfl)) | (with_reducible exact room2 (by assumption) (Nat.le_of_ble_eq_true rfl)) | (with_reducible exact room3 (by assumption) (Nat.le_of_ble_eq_true rfl)) | ((simp only [depth_under_make, depth_under_kw, depth_in1, depth_deeper, depth_caller, units_in1, units_deeper, Around.mark_units, units_caller]); (try dsimp only [ktrTop]); first | (with_reducible exact room1 (by assumption) (Nat.le_of_ble_eq_true rfl)) | (with_reducible exact room2 (by assumption) (Nat.le_of_ble_eq_true rfl)) | (with_reducible exact room3 (by assumption) (Nat.le_of_ble_eq_true rfl)))
  k_with "CompSrc" => refine hold ?_
  k_with "call ref cons nil" => (k_here; (with_reducible show wpAny _ _ (call (Value.ref 193) [_]) _ _ _); refine hold ?_)
  k_with "call ref cons nil" => (k_here; (with_reducible show wpAny _ _ (call (Value.ref 205) [_, _]) _ _ _); refine hold ?_)
  k_with "call ref cons nil" => (k_here; (with_reducible show wpAny _ _ (call (Value.ref 219) [_, _]) _ _ _); refine hold ?_)
  k_with "exec Assign cons ListComp" => (k_here; lct_look; lcg_calm; k_dflt (refine compT_tupA (_F₀ := by k_asm) (by rfl) (by with_unfolding_all rfl) (by with_unfolding_all rfl) (by decide) (by rfl) (by decide) (by rfl) (by rfl) (by rfl) ?_))
  k_go0
  (all_goals try k_fold)
  k_steps
  unfold Hold
  rename_i oW hcell X0 D1 ws1 h1 F1 N1 hI1 hC1 hL1 l1
  have hw1 := ints_all2 hI1
  rw [List.length_take] at hC1
  have hwl : ws1.length ≤ 40 := by rw [hw1.length, List.length_take]; omega
  refine comp_list (ax := D1) (vs := ws1) (k := 0) (fun i ys nw => [(D1, listOf (List.toArray ws1) 0), (_, oW)] = nw ∧ (∃ ns, All2 IntAt ys ns) ∧ ys.length = i) (by rfl) F1 N1 (.head _) (by omega) (by rintro i ys nw ⟨rfl, _⟩; exact .head _) ⟨rfl, ⟨_, .nil⟩, rfl⟩ ?turn1 ?fin1
  case turn1 =>
    rintro i v ys nw I oI C oC D m₂ h tk E' hv ⟨rfl, ⟨ns, A⟩, hyl⟩ hC hx F N off
    obtain ⟨x, hx, hX⟩ := hw1.get hv
    cases hX
    k_steps
    exact REnd.mk F N (fun p hp => hp) off ⟨rfl, ⟨_, A.snoc .mk⟩, by rw [List.length_append, hyl]; rfl⟩
  case fin1 =>
    rintro g ys nw ⟨rfl, ⟨ns, A⟩, hyl⟩
    have hyl2 : ys.length ≤ 63 := by omega
    k_steps
    unfold Hold
    rename_i D2 h2 tk2 oD2 wl h3 lw h4 oc F4 N4 doc

    obtain ⟨R0, hR0⟩ : ∃ R : Led, R = [(D2, LCg.lst ys), (D1, listOf (List.toArray ws1) 0), (‹Shared›.heap.objs.size + 1, oc)] := ⟨_, rfl⟩
    have I0 : NumsAt D2 R0 := by rw [hR0]; exact ⟨ys, ns, _, .head _, ints_of A, hyl2⟩
    have mc : (‹Shared›.heap.objs.size + 1, oc) ∈ R0 := by rw [hR0]; exact .tail _ (.tail _ (.head _))
    have off0 : Off wl R0 := by rw [hR0]; exact off_cons.mpr ⟨by omega, off_cons.mpr ⟨by omega, off_cons.mpr ⟨by omega, fun p hp => nomatch hp⟩⟩⟩
    rw [← hR0] at N4
    clear hR0
    have W0 : WellObj D2 0 (listOf #[.ref D2, .int 0 tk2, .int 40529 (tk2 + 1)] 0) := ⟨0, 40529, _, _, _, rfl, by omega, by omega, by omega, by omega⟩
    k_dflt (refine' DrawSpec.use (function _) (wa := wl) (nm := D2) (b := 0) (fr := []) (ex := []) (rest := R0) ?y9B ?y9F ?y9X ?y9N ?y9P ?y9off ?y9T ?y9k ?y9W ?y9I ?y9pre ?y9b ?y9d ?y9u ?_; (case y9N => k_asm); (case y9P => exact Pick.head (Rst.nil (ex := []) (rest := R0))); (case y9B => k_asm); (case y9F => k_asm); (case y9X => k_asm); (case y9off => exact off0); (case y9T => k_asm); (case y9k => first | exact rfl | assumption); (case y9W => assumption); (case y9I => assumption); (case y9pre => trivial); (case y9b => omega); (case y9d => ktr_room); (case y9u => ktr_units))
    rintro v5 R1 o1 h5 tk5 F5 N5 G5 off5 W5 I5 ⟨d, hf, hok⟩
    have hs5 := G5.1
    have mc5 := hs5 _ mc
    have N5' : News _ _ _ ((wl, o1) :: R1) := N5
    have off5' : Off wl R1 := off5
    clear N5 off5 N4 F4 G5 hs5 mc I0 off0 W0 lw A hw1 hI1
    obtain ⟨fx, rfl⟩ : ∃ fx, v5 = .ref fx := by cases hf; exact ⟨_, rfl⟩
    k_steps
    unfold Hold
    rename_i tk6 h6 T6 h7 F7 N7 l7
    obtain ⟨its, hits⟩ : ∃ l : List Value, l = [.int 9 tk, .int 18 (tk + 1), .int 19 (tk + 1 + 1), .int 20 (tk + 1 + 1 + 1), .int 21 (tk + 1 + 1 + 1 + 1)] := ⟨_, rfl⟩
    obtain ⟨ex2, hex2⟩ : ∃ e : Led, e = [(T6, tupW its)] := ⟨_, rfl⟩
    have hT6 : (T6, tupW its) ∈ ex2 := by rw [hex2]; exact .head _
    have N8 : News _ _ _ ((wl, o1) :: (ex2 ++ R1)) := fun p hp => N7 p (by
      rw [hex2, hits] at hp
      rcases List.mem_cons.mp hp with h | h
      · rw [h]; exact .tail _ (.head _)
      · rcases List.mem_cons.mp h with h | h
        · rw [h]; exact .head _
        · exact .tail _ (.tail _ h))
    clear N7
    have off8 : Off wl (ex2 ++ R1) := by rw [hex2]; exact off_cons.mpr ⟨by omega, off5'⟩
    have hitl : its.length = 5 := by rw [hits]; rfl
    have hiti : ∀ (i : Nat) v, its[i]? = some v → ∃ x, IntAt v x := by
      intro i v hv
      rw [hits] at hv
      rcases i with _ | _ | _ | _ | _ | i <;> cases hv <;> exact ⟨_, .mk⟩
    clear hits hex2
    refine comp_tup_draw (k := 2) (fun i ys rest => (∃ ns, All2 IntAt ys ns) ∧ ys.length ≤ i) (by rfl) F7 N8 hT6 (by omega) off8 W5 I5 ⟨⟨_, .nil⟩, Nat.le_refl _⟩ ?turn2 ?fin2
    case turn2 =>
      rintro i v ys I oI C oC D m₂ h tk E' o rest hv hs off W I' ⟨⟨ns, A⟩, hyl⟩ hC hx F N hIw hCw hDw
      obtain ⟨x, hX⟩ := hiti i v hv
      have hi5 : i < 5 := by rw [← hitl]; exact (List.getElem?_eq_some_iff.mp hv).1
      cases hX
      have mc' := hs _ mc5
      clear N8 F7 off8 W5 I5 off5'
      k_steps
      all_goals rename_i restB oB hB tkB FB NB GB offB WB IB iB tB hiB a9
      · exact DEnd.mk FB NB (by k_extra "m_perm") (GB.less (by k_extra "m_cellsG")) (WB.le (by omega)) ⟨⟨_, A.snoc .mk⟩, by rw [List.length_append]; simp only [List.length_cons, List.length_nil]; omega⟩
      · exact DEnd.mk FB NB (by k_extra "m_perm") (GB.less (by k_extra "m_cellsG")) (WB.le (by omega)) ⟨⟨_, A⟩, by omega⟩
    case fin2 =>
      rintro g ys o rest G off W I' ⟨⟨ns, A⟩, hyl⟩
      have hf2 := hf.mono G.1
      clear N8 F7 off8 W5 I5 off5' hf
      rw [hitl] at hyl
      have mc' := G.1 _ mc5
      k_steps
      unfold Hold
      rename_i K9 h9 tk9 F9 N9 oK9
      obtain ⟨R9, hR9⟩ : ∃ R : Led, R = (K9, LCg.lst ys) :: (wl, o) :: (ex2 ++ rest) := ⟨_, rfl⟩
      have hs9 : ∀ p ∈ rest, p ∈ R9 := by rw [hR9]; k_extra "m_sq"
      have hf9 := hf2.mono hs9
      have mc9 := hs9 _ mc'
      have hi9 : IntsAt R9 (.ref K9) ns := by rw [hR9]; exact ⟨K9, ys, _, rfl, .head _, A⟩
      have hn9 : ns.length ≤ 5 := by rw [← A.length]; exact hyl
      rw [← hR9] at N9
      clear hR9 oK9 hs9 mc' hf2
      have hf9' := hf9
      obtain @⟨fx, fdx, bl, _, _, _, _, _, _, _, _, _, _, _, _, _, _, _, vn, vp, vs, _, bvs, bn, hfx, hfdx, hfp, hfs, hfbl, hfb2⟩ := hf9'
      k_dflt (refine' ReadSpec.use (frame_right _ _ _ d ns) ?a9B ?a9F ?a9X ?a9N ?a9T ?a9k ?a9pre ?a9d ?a9u ?_; (case a9N => k_asm); (case a9B => k_asm); (case a9F => k_asm); (case a9X => k_asm); (case a9T => k_asm); (case a9k => first | exact rfl | assumption); (case a9pre => exact ⟨hf9, hok, hi9, hn9⟩); (case a9d => ktr_room); (case a9u => ktr_units))
      rintro r10 h10 tk10 F10 N10 rfl
      clear F9 N9
      k_steps
      unfold Hold
      have hbs9 : BlocksAt R9 (.ref bl) d.blocks := ⟨bl, bvs, bn, rfl, hfbl, hfb2⟩
      k_dflt (refine' ReadSpec.use (usage_right _ _ _ d d.blocks d.slots.length) ?b9B ?b9F ?b9X ?b9N ?b9T ?b9k ?b9pre ?b9d ?b9u ?_; (case b9N => k_asm); (case b9B => k_asm); (case b9F => k_asm); (case b9X => k_asm); (case b9T => k_asm); (case b9k => first | exact rfl | assumption); (case b9pre => exact ⟨hf9, hok, hbs9, hok.2.2.2.2, hok.2.2.2.1⟩); (case b9d => ktr_room); (case b9u => ktr_units))
      rintro r11 h11 tk11 F11 N11 rfl
      clear F10 N10
      have hbvl : bvs.length ≤ 3 := by rw [hfb2.length]; exact hok.2.2.2.1
      k_steps
      unfold Hold
      rename_i D12 h12 F12 N12 l12
      have hs12 : ∀ p ∈ R9, p ∈ (D12, listOf (bvs.take 1).toArray 0) :: R9 := fun p hp => .tail _ hp
      have hbs12 : BlocksAt ((D12, listOf (bvs.take 1).toArray 0) :: R9) (.ref D12) (d.blocks.take 1) := ⟨D12, bvs.take 1, 0, rfl, .head _, (hfb2.take 1).imp fun _ _ => BlockAt.mono hs12⟩
      have hbok12 : ∀ b ∈ d.blocks.take 1, BlockOk d.slots.length b := fun b hb => hok.2.2.2.2 b (List.mem_of_mem_take hb)
      have hbl12 : (d.blocks.take 1).length ≤ 3 := by rw [List.length_take]; omega
      k_dflt (refine' ReadSpec.use (usage_right _ _ _ d (d.blocks.take 1) d.slots.length) ?c9B ?c9F ?c9X ?c9N ?c9T ?c9k ?c9pre ?c9d ?c9u ?_; (case c9N => k_asm); (case c9B => k_asm); (case c9F => k_asm); (case c9X => k_asm); (case c9T => k_asm); (case c9k => first | exact rfl | assumption); (case c9pre => exact ⟨hf9.mono hs12, hok, hbs12, hbok12, hbl12⟩); (case c9d => ktr_room); (case c9u => ktr_units))
      rintro r13 h13 tk13 F13 N13 rfl
      clear F12 N12
      k_steps)
end
end
end Mine

theorem PySem.Challenge.cw_nm0006_01_holds : PySem.Challenge.rw_nm0006_01.Holds :=
  Mine.lawT
