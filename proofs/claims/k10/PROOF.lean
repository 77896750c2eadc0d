import PyProof.Rows.All
import Wide.All
import OpenK.AllK
import Wide.FinOn
import KE.KStateDown
import HandS.ForMost
import HandS.WordsExc
import HandS.Defaults
import HandS.Head0
import HandS.Head1
import HandS.Head2
import HandS.HeadEnd
import HandS.HeadHook1
import HandS.HeadHook2
import HandS.HeadHook3
import PySem.Challenge.RW_guessedworlds_k10_whole_handlers_run_tre
import Open.FastLooks
import HandS.TupAny
import HandS.Strs
import HandS.SetFor
import HandS.IsInst
import HandS.Style
import HandS.DictComp
import HandS.Zip
import HandS.Wide
import HandS.Codes
import KE.GoesEnum
import KE.KDictOf
import PyProof.AssignAttr
import PyProof.DictUpdate
import KE.BitLaws
import HandS.Walk
import HandS.WideBits
set_option Elab.async false
set_option maxRecDepth 100000
set_option maxHeartbeats 0
namespace G
open PySem PySem.Spec PyProof.Rows L2
/-! the head: places, what the top leaves, the Hook -/
abbrev FRow : Type := Addr × Addr × Str × Str × Stmt
def top (i : Nat) : Stmt := PySem.Challenge.pw_guessedworlds_k10_whole_handlers_run_tre.main.body.getD i (.Pass ⟨0, 0, 0, 0⟩)
abbrev sp_is_integer : Stmt := top 11
abbrev sp_is_within : Stmt := top 12
abbrev sp_is_small : Stmt := top 13
abbrev sp_is_below : Stmt := top 14
abbrev sp_is_sized : Stmt := top 15
abbrev sp_is_word : Stmt := top 16
abbrev sp_is_row : Stmt := top 25
abbrev sm_Ground_init : Stmt := inClass (top 26) 0
abbrev sp_sign_of : Stmt := top 27
abbrev sp_expression_size : Stmt := top 57
abbrev sp_expressions_of : Stmt := top 58
abbrev sp_bodies_of : Stmt := top 59
abbrev sp_has_form : Stmt := top 60
abbrev sp_statement_size : Stmt := top 61
abbrev sp_body_size : Stmt := top 62
abbrev sp_is_handler : Stmt := top 63
abbrev sp_are_words : Stmt := top 64
abbrev sm_Program_init : Stmt := inClass (top 65) 0
abbrev sm_Kind_init : Stmt := inClass (top 70) 0
abbrev sm_Game_init : Stmt := inClass (top 74) 0
abbrev sp_small : Stmt := top 79
abbrev sp_later_seed : Stmt := top 80
abbrev sp_draw : Stmt := top 81
abbrev sp_nearer : Stmt := top 83
abbrev sp_is_id : Stmt := top 87
abbrev sp_place_of : Stmt := top 88
abbrev sm_Standing_init : Stmt := inClass (top 93) 0
abbrev sp_are_inputs : Stmt := top 94
abbrev sp_check_inputs : Stmt := top 95
abbrev sm_Effects_init : Stmt := inClass (top 96) 0
abbrev sm_Effects_standing : Stmt := inClass (top 96) 1
abbrev sm_Effects_spend : Stmt := inClass (top 96) 2
abbrev sm_Effects_buttons : Stmt := inClass (top 96) 3
abbrev sm_Effects_load : Stmt := inClass (top 96) 4
abbrev sm_Effects_store : Stmt := inClass (top 96) 5
abbrev sm_Effects_draw : Stmt := inClass (top 96) 6
abbrev sm_Effects_body_of : Stmt := inClass (top 96) 7
abbrev sm_Effects_make : Stmt := inClass (top 96) 8
abbrev sm_Effects_shove : Stmt := inClass (top 96) 9
abbrev sm_Effects_go : Stmt := inClass (top 96) 10
abbrev sm_Effects_say : Stmt := inClass (top 96) 11
abbrev sp_power_bit : Stmt := top 97
abbrev sp_whole_part : Stmt := top 98
abbrev sp_rest_of : Stmt := top 99
abbrev sp_of_two : Stmt := top 100
abbrev sp_of_one : Stmt := top 101
abbrev sp_mark_at : Stmt := top 105
abbrev sp_asked_of_body : Stmt := top 106
abbrev sp_by_one : Stmt := top 107
abbrev sp_by_two : Stmt := top 108
abbrev sp_value_of : Stmt := top 109
abbrev sp_do_plain : Stmt := top 110
abbrev sp_do_body : Stmt := top 111
abbrev sp_do_statement : Stmt := top 112
abbrev sp_do_while : Stmt := top 113
abbrev sp_program_of : Stmt := top 114
abbrev sp_handler_of : Stmt := top 115
abbrev sp_run_handler : Stmt := top 116
abbrev sp_check_call : Stmt := top 117
abbrev sp_ran : Stmt := top 118
abbrev sl_hand : Stmt := top 120
abbrev sl_take : Stmt := top 121
abbrev sl_pick : Stmt := top 122
abbrev sl_wide : Stmt := top 123
abbrev sl_small : Stmt := top 124
abbrev sl_seed : Stmt := top 125
abbrev sl_is_integer : Stmt := top 126
abbrev sl_same : Stmt := top 127
abbrev sl_ground_sign : Stmt := top 128
abbrev sl_rows : Stmt := top 129
abbrev sl_ground : Stmt := top 130
abbrev sl_sign : Stmt := top 131
abbrev sl_program_of : Stmt := top 132
abbrev sl_kind_of : Stmt := top 133
abbrev sl_game_of : Stmt := top 134
abbrev sl_word : Stmt := top 135
abbrev sl_one_word : Stmt := top 136
abbrev sl_two_word : Stmt := top 137
abbrev sl_leaf : Stmt := top 138
abbrev sl_tree : Stmt := top 139
abbrev sl_part : Stmt := top 140
abbrev sl_counted : Stmt := top 141
abbrev sl_statement : Stmt := top 142
abbrev sl_body : Stmt := top 143
abbrev sl_handler : Stmt := top 144
abbrev sl_handlers : Stmt := top 145
abbrev sl_scripted : Stmt := top 146
abbrev sl_wrap : Stmt := top 147
abbrev sl_near : Stmt := top 148
abbrev sl_doing : Stmt := top 149
abbrev sl_done : Stmt := top 150
abbrev sl_buttons : Stmt := top 151
abbrev sl_named : Stmt := top 152
abbrev sl_seen : Stmt := top 153
abbrev sl_body_told : Stmt := top 154
abbrev sl_of_one : Stmt := top 155
abbrev sl_of_two : Stmt := top 156
abbrev sl_set : Stmt := top 157
abbrev sl_make : Stmt := top 158
abbrev sl_push : Stmt := top 159
abbrev sl_leave : Stmt := top 160
abbrev sl_say : Stmt := top 161
abbrev sl_paid : Stmt := top 162
abbrev sl_value : Stmt := top 163
abbrev sl_do : Stmt := top 164
abbrev sl_run : Stmt := top 165
abbrev sl_rounds : Stmt := top 166
abbrev sl_plain_kinds : Stmt := top 167
abbrev sl_free_signs : Stmt := top 168
abbrev sl_plain_bodies : Stmt := top 169
abbrev sl_standing_parts : Stmt := top 170
abbrev sl_standing_of : Stmt := top 171
abbrev sl_standing_same : Stmt := top 172
abbrev sl_inputs : Stmt := top 173
abbrev sl_event : Stmt := top 174
abbrev sl_due : Stmt := top 175
abbrev sl_law : Stmt := top 176
def gl0 : List (Option Str × Option V) := [(some ⟨#[95, 95, 110, 97, 109, 101, 95, 95]⟩, some (.str "law_guessedworlds_k10_whole_handlers_run_tre")), (some ⟨#[95, 95, 100, 111, 99, 95, 95]⟩, some .non), (some ⟨#[95, 95, 112, 97, 99, 107, 97, 103, 101, 95, 95]⟩, some .non), (some ⟨#[95, 95, 108, 111, 97, 100, 101, 114, 95, 95]⟩, none), (some ⟨#[95, 95, 115, 112, 101, 99, 95, 95]⟩, some .non), (some ⟨#[95, 95, 97, 110, 110, 111, 116, 97, 116, 105, 111, 110, 115, 95, 95]⟩, some (.ref 6)), (some ⟨#[95, 95, 98, 117, 105, 108, 116, 105, 110, 115, 95, 95]⟩, some (.ref 4)), (some ⟨#[95, 95, 102, 105, 108, 101, 95, 95]⟩, some (.str "/claim/cut.py")), (some ⟨#[95, 95, 99, 97, 99, 104, 101, 100, 95, 95]⟩, some .non), (some ⟨#[87, 111, 114, 108, 100, 69, 114, 114, 111, 114]⟩, some (.ref 24)), (some ⟨#[66, 97, 100, 71, 114, 111, 117, 110, 100]⟩, some (.ref 44)), (some ⟨#[66, 97, 100, 80, 114, 111, 103, 114, 97, 109]⟩, some (.ref 63)), (some ⟨#[66, 97, 100, 75, 105, 110, 100]⟩, some (.ref 82)), (some ⟨#[66, 97, 100, 71, 97, 109, 101]⟩, some (.ref 101)), (some ⟨#[78, 111, 66, 111, 100, 121]⟩, some (.ref 113)), (some ⟨#[78, 111, 73, 110, 112, 117, 116, 115]⟩, some (.ref 125)), (some ⟨#[76, 69, 65, 83, 84, 95, 83, 77, 65, 76, 76]⟩, some (.int (-2147483648))), (some ⟨#[77, 79, 83, 84, 95, 83, 77, 65, 76, 76]⟩, some (.int (2147483647))), (some ⟨#[105, 115, 95, 105, 110, 116, 101, 103, 101, 114]⟩, some (.ref 134)), (some ⟨#[105, 115, 95, 119, 105, 116, 104, 105, 110]⟩, some (.ref 141)), (some ⟨#[105, 115, 95, 115, 109, 97, 108, 108]⟩, some (.ref 148)), (some ⟨#[105, 115, 95, 98, 101, 108, 111, 119]⟩, some (.ref 155)), (some ⟨#[105, 115, 95, 115, 105, 122, 101, 100]⟩, some (.ref 162)), (some ⟨#[105, 115, 95, 119, 111, 114, 100]⟩, some (.ref 169)), (some ⟨#[67, 69, 76, 76]⟩, some (.int (8))), (some ⟨#[77, 79, 83, 84, 95, 82, 79, 87, 83]⟩, some (.int (30))), (some ⟨#[77, 79, 83, 84, 95, 83, 73, 71, 78, 83]⟩, some (.int (40))), (some ⟨#[77, 79, 83, 84, 95, 83, 73, 68, 69]⟩, some (.int (32))), (some ⟨#[70, 82, 69, 69]⟩, some (.str ".")), (some ⟨#[87, 65, 76, 76]⟩, some (.str "#"))]
def gl1 : List (Option Str × Option V) := [(some ⟨#[77, 65, 82, 75, 83]⟩, some (.str "0123456789")), (some ⟨#[105, 115, 95, 114, 111, 119]⟩, some (.ref 174)), (some ⟨#[71, 114, 111, 117, 110, 100]⟩, some (.ref 198)), (some ⟨#[115, 105, 103, 110, 95, 111, 102]⟩, some (.ref 209)), (some ⟨#[115, 112, 97, 110, 110, 101, 100]⟩, some (.ref 216)), (some ⟨#[111, 112, 101, 110, 115]⟩, some (.ref 221)), (some ⟨#[77, 79, 83, 84, 95, 68, 69, 69, 80]⟩, some (.int (10))), (some ⟨#[77, 79, 83, 84, 95, 80, 65, 82, 84, 83]⟩, some (.int (40))), (some ⟨#[77, 79, 83, 84, 95, 66, 79, 68, 73, 69, 83]⟩, some (.int (5))), (some ⟨#[77, 79, 83, 84, 95, 83, 84, 65, 84, 69, 77, 69, 78, 84, 83]⟩, some (.int (50))), (some ⟨#[77, 79, 83, 84, 95, 73, 78, 95, 65, 76, 76]⟩, some (.int (400))), (some ⟨#[77, 79, 83, 84, 95, 75, 73, 78, 68, 83]⟩, some (.int (8))), (some ⟨#[78, 85, 77, 66, 69, 82]⟩, some (.str "number")), (some ⟨#[78, 65, 77, 69]⟩, some (.str "name")), (some ⟨#[83, 80, 69, 69, 68, 83]⟩, some (.ref 222)), (some ⟨#[67, 69, 76, 76, 83]⟩, some (.ref 223)), (some ⟨#[83, 72, 65, 82, 69, 68]⟩, some (.ref 224)), (some ⟨#[83, 69, 84, 83]⟩, some (.ref 226)), (some ⟨#[78, 65, 77, 69, 83]⟩, some (.ref 228)), (some ⟨#[67, 79, 78, 83, 84, 65, 78, 84, 95, 79, 78, 69, 83]⟩, some (.ref 229)), (some ⟨#[79, 78, 69, 83]⟩, some (.ref 231)), (some ⟨#[67, 79, 78, 83, 84, 65, 78, 84, 95, 84, 87, 79, 83]⟩, some (.ref 232)), (some ⟨#[84, 87, 79, 83]⟩, some (.ref 234)), (some ⟨#[83, 69, 84]⟩, some (.str "set")), (some ⟨#[77, 65, 75, 69]⟩, some (.str "make")), (some ⟨#[80, 85, 83, 72]⟩, some (.str "push")), (some ⟨#[71, 79, 78, 69]⟩, some (.str "gone")), (some ⟨#[83, 65, 89]⟩, some (.str "say")), (some ⟨#[73, 70]⟩, some (.str "if")), (some ⟨#[87, 72, 73, 76, 69]⟩, some (.str "while"))]
def gl2 : List (Option Str × Option V) := [(some ⟨#[69, 86, 69, 78, 84, 83]⟩, some (.ref 235)), (some ⟨#[76, 69, 78, 71, 84, 72, 83]⟩, some (.ref 236)), (some ⟨#[101, 120, 112, 114, 101, 115, 115, 105, 111, 110, 95, 115, 105, 122, 101]⟩, some (.ref 241)), (some ⟨#[101, 120, 112, 114, 101, 115, 115, 105, 111, 110, 115, 95, 111, 102]⟩, some (.ref 248)), (some ⟨#[98, 111, 100, 105, 101, 115, 95, 111, 102]⟩, some (.ref 255)), (some ⟨#[104, 97, 115, 95, 102, 111, 114, 109]⟩, some (.ref 262)), (some ⟨#[115, 116, 97, 116, 101, 109, 101, 110, 116, 95, 115, 105, 122, 101]⟩, some (.ref 267)), (some ⟨#[98, 111, 100, 121, 95, 115, 105, 122, 101]⟩, some (.ref 274)), (some ⟨#[105, 115, 95, 104, 97, 110, 100, 108, 101, 114]⟩, some (.ref 281)), (some ⟨#[97, 114, 101, 95, 119, 111, 114, 100, 115]⟩, some (.ref 286)), (some ⟨#[80, 114, 111, 103, 114, 97, 109]⟩, some (.ref 308)), (some ⟨#[77, 79, 83, 84, 95, 80, 85, 76, 76]⟩, some (.int (4))), (some ⟨#[77, 79, 83, 84, 95, 80, 76, 65, 89, 69, 82, 83]⟩, some (.int (4))), (some ⟨#[77, 79, 83, 84, 95, 66, 73, 82, 84, 72, 83]⟩, some (.int (16))), (some ⟨#[75, 105, 110, 100]⟩, some (.ref 336)), (some ⟨#[115, 104, 97, 114, 101, 115]⟩, some (.ref 347)), (some ⟨#[105, 115, 95, 99, 108, 101, 97, 114]⟩, some (.ref 354)), (some ⟨#[105, 115, 95, 98, 105, 114, 116, 104]⟩, some (.ref 361)), (some ⟨#[71, 97, 109, 101]⟩, some (.ref 383)), (some ⟨#[87, 72, 79, 76, 69]⟩, some (.int (4294967296))), (some ⟨#[80, 82, 73, 77, 69]⟩, some (.int (2147483647))), (some ⟨#[83, 84, 69, 80]⟩, some (.int (48271))), (some ⟨#[115, 109, 97, 108, 108]⟩, some (.ref 394)), (some ⟨#[108, 97, 116, 101, 114, 95, 115, 101, 101, 100]⟩, some (.ref 401)), (some ⟨#[100, 114, 97, 119]⟩, some (.ref 408)), (some ⟨#[100, 114, 97, 119, 95, 110, 117, 109, 98, 101, 114, 115]⟩, some (.ref 408)), (some ⟨#[110, 101, 97, 114, 101, 114]⟩, some (.ref 415)), (some ⟨#[77, 79, 83, 84, 95, 83, 65, 73, 68]⟩, some (.int (64))), (some ⟨#[77, 79, 83, 84, 95, 83, 80, 69, 69, 68]⟩, some (.int (16))), (some ⟨#[105, 115, 95, 105, 100]⟩, some (.ref 420))]
def gl3 : List (Option Str × Option V) := [(some ⟨#[112, 108, 97, 99, 101, 95, 111, 102]⟩, some (.ref 427)), (some ⟨#[77, 79, 83, 84, 95, 73, 78, 80, 85, 84]⟩, some (.int (255))), (some ⟨#[77, 79, 83, 84, 95, 65, 83, 75, 69, 68]⟩, some (.int (32))), (some ⟨#[70, 85, 69, 76]⟩, some (.int (100))), (some ⟨#[83, 116, 97, 110, 100, 105, 110, 103]⟩, some (.ref 458)), (some ⟨#[97, 114, 101, 95, 105, 110, 112, 117, 116, 115]⟩, some (.ref 467)), (some ⟨#[99, 104, 101, 99, 107, 95, 105, 110, 112, 117, 116, 115]⟩, some (.ref 474)), (some ⟨#[69, 102, 102, 101, 99, 116, 115]⟩, some (.ref 568)), (some ⟨#[112, 111, 119, 101, 114, 95, 98, 105, 116]⟩, some (.ref 579)), (some ⟨#[119, 104, 111, 108, 101, 95, 112, 97, 114, 116]⟩, some (.ref 586)), (some ⟨#[114, 101, 115, 116, 95, 111, 102]⟩, some (.ref 593)), (some ⟨#[111, 102, 95, 116, 119, 111]⟩, some (.ref 600)), (some ⟨#[111, 102, 95, 111, 110, 101]⟩, some (.ref 607)), (some ⟨#[77, 65, 82, 75, 95, 70, 82, 69, 69]⟩, some (.int (10))), (some ⟨#[77, 65, 82, 75, 95, 87, 65, 76, 76]⟩, some (.int (11))), (some ⟨#[109, 97, 114, 107, 95, 97, 116]⟩, some (.ref 614)), (some ⟨#[97, 115, 107, 101, 100, 95, 111, 102, 95, 98, 111, 100, 121]⟩, some (.ref 621)), (some ⟨#[98, 121, 95, 111, 110, 101]⟩, some (.ref 628)), (some ⟨#[98, 121, 95, 116, 119, 111]⟩, some (.ref 635)), (some ⟨#[118, 97, 108, 117, 101, 95, 111, 102]⟩, some (.ref 642)), (some ⟨#[100, 111, 95, 112, 108, 97, 105, 110]⟩, some (.ref 647)), (some ⟨#[100, 111, 95, 98, 111, 100, 121]⟩, some (.ref 654)), (some ⟨#[100, 111, 95, 115, 116, 97, 116, 101, 109, 101, 110, 116]⟩, some (.ref 661)), (some ⟨#[100, 111, 95, 119, 104, 105, 108, 101]⟩, some (.ref 668)), (some ⟨#[112, 114, 111, 103, 114, 97, 109, 95, 111, 102]⟩, some (.ref 673)), (some ⟨#[104, 97, 110, 100, 108, 101, 114, 95, 111, 102]⟩, some (.ref 680)), (some ⟨#[114, 117, 110, 95, 104, 97, 110, 100, 108, 101, 114]⟩, some (.ref 687)), (some ⟨#[99, 104, 101, 99, 107, 95, 99, 97, 108, 108]⟩, some (.ref 694)), (some ⟨#[114, 97, 110]⟩, some (.ref 701)), (some ⟨#[95, 108, 97, 119, 95, 104, 97, 110, 100]⟩, some (.ref 708))]
def gl4 : List (Option Str × Option V) := [(some ⟨#[95, 108, 97, 119, 95, 116, 97, 107, 101]⟩, some (.ref 715)), (some ⟨#[95, 108, 97, 119, 95, 112, 105, 99, 107]⟩, some (.ref 722)), (some ⟨#[95, 108, 97, 119, 95, 119, 105, 100, 101]⟩, some (.ref 729)), (some ⟨#[95, 108, 97, 119, 95, 115, 109, 97, 108, 108]⟩, some (.ref 736)), (some ⟨#[95, 108, 97, 119, 95, 115, 101, 101, 100]⟩, some (.ref 743)), (some ⟨#[95, 108, 97, 119, 95, 105, 115, 95, 105, 110, 116, 101, 103, 101, 114]⟩, some (.ref 750)), (some ⟨#[95, 108, 97, 119, 95, 115, 97, 109, 101]⟩, some (.ref 757)), (some ⟨#[95, 108, 97, 119, 95, 103, 114, 111, 117, 110, 100, 95, 115, 105, 103, 110]⟩, some (.ref 764)), (some ⟨#[95, 108, 97, 119, 95, 114, 111, 119, 115]⟩, some (.ref 769)), (some ⟨#[95, 108, 97, 119, 95, 103, 114, 111, 117, 110, 100]⟩, some (.ref 776)), (some ⟨#[95, 108, 97, 119, 95, 115, 105, 103, 110]⟩, some (.ref 783)), (some ⟨#[95, 108, 97, 119, 95, 112, 114, 111, 103, 114, 97, 109, 95, 111, 102]⟩, some (.ref 790)), (some ⟨#[95, 108, 97, 119, 95, 107, 105, 110, 100, 95, 111, 102]⟩, some (.ref 797)), (some ⟨#[95, 108, 97, 119, 95, 103, 97, 109, 101, 95, 111, 102]⟩, some (.ref 802)), (some ⟨#[95, 108, 97, 119, 95, 119, 111, 114, 100]⟩, some (.ref 809)), (some ⟨#[95, 108, 97, 119, 95, 111, 110, 101, 95, 119, 111, 114, 100]⟩, some (.ref 816)), (some ⟨#[95, 108, 97, 119, 95, 116, 119, 111, 95, 119, 111, 114, 100]⟩, some (.ref 823)), (some ⟨#[95, 108, 97, 119, 95, 108, 101, 97, 102]⟩, some (.ref 830)), (some ⟨#[95, 108, 97, 119, 95, 116, 114, 101, 101]⟩, some (.ref 837)), (some ⟨#[95, 108, 97, 119, 95, 112, 97, 114, 116]⟩, some (.ref 844)), (some ⟨#[95, 108, 97, 119, 95, 99, 111, 117, 110, 116, 101, 100]⟩, some (.ref 851)), (some ⟨#[95, 108, 97, 119, 95, 115, 116, 97, 116, 101, 109, 101, 110, 116]⟩, some (.ref 858)), (some ⟨#[95, 108, 97, 119, 95, 98, 111, 100, 121]⟩, some (.ref 865)), (some ⟨#[95, 108, 97, 119, 95, 104, 97, 110, 100, 108, 101, 114]⟩, some (.ref 872)), (some ⟨#[95, 108, 97, 119, 95, 104, 97, 110, 100, 108, 101, 114, 115]⟩, some (.ref 879)), (some ⟨#[95, 108, 97, 119, 95, 115, 99, 114, 105, 112, 116, 101, 100]⟩, some (.ref 886)), (some ⟨#[95, 108, 97, 119, 95, 119, 114, 97, 112]⟩, some (.ref 893)), (some ⟨#[95, 108, 97, 119, 95, 110, 101, 97, 114]⟩, some (.ref 900)), (some ⟨#[95, 108, 97, 119, 95, 100, 111, 105, 110, 103]⟩, some (.ref 905)), (some ⟨#[95, 108, 97, 119, 95, 100, 111, 110, 101]⟩, some (.ref 910))]
def gl5 : List (Option Str × Option V) := [(some ⟨#[95, 108, 97, 119, 95, 98, 117, 116, 116, 111, 110, 115]⟩, some (.ref 917)), (some ⟨#[95, 108, 97, 119, 95, 110, 97, 109, 101, 100]⟩, some (.ref 924)), (some ⟨#[95, 108, 97, 119, 95, 115, 101, 101, 110]⟩, some (.ref 931)), (some ⟨#[95, 108, 97, 119, 95, 98, 111, 100, 121, 95, 116, 111, 108, 100]⟩, some (.ref 938)), (some ⟨#[95, 108, 97, 119, 95, 111, 102, 95, 111, 110, 101]⟩, some (.ref 945)), (some ⟨#[95, 108, 97, 119, 95, 111, 102, 95, 116, 119, 111]⟩, some (.ref 952)), (some ⟨#[95, 108, 97, 119, 95, 115, 101, 116]⟩, some (.ref 959)), (some ⟨#[95, 108, 97, 119, 95, 109, 97, 107, 101]⟩, some (.ref 966)), (some ⟨#[95, 108, 97, 119, 95, 112, 117, 115, 104]⟩, some (.ref 973)), (some ⟨#[95, 108, 97, 119, 95, 108, 101, 97, 118, 101]⟩, some (.ref 980)), (some ⟨#[95, 108, 97, 119, 95, 115, 97, 121]⟩, some (.ref 987)), (some ⟨#[95, 108, 97, 119, 95, 112, 97, 105, 100]⟩, some (.ref 994)), (some ⟨#[95, 108, 97, 119, 95, 118, 97, 108, 117, 101]⟩, some (.ref 1001)), (some ⟨#[95, 108, 97, 119, 95, 100, 111]⟩, some (.ref 1006)), (some ⟨#[95, 108, 97, 119, 95, 114, 117, 110]⟩, some (.ref 1013)), (some ⟨#[95, 108, 97, 119, 95, 114, 111, 117, 110, 100, 115]⟩, some (.ref 1020)), (some ⟨#[95, 108, 97, 119, 95, 112, 108, 97, 105, 110, 95, 107, 105, 110, 100, 115]⟩, some (.ref 1025)), (some ⟨#[95, 108, 97, 119, 95, 102, 114, 101, 101, 95, 115, 105, 103, 110, 115]⟩, some (.ref 1030)), (some ⟨#[95, 108, 97, 119, 95, 112, 108, 97, 105, 110, 95, 98, 111, 100, 105, 101, 115]⟩, some (.ref 1035)), (some ⟨#[95, 108, 97, 119, 95, 115, 116, 97, 110, 100, 105, 110, 103, 95, 112, 97, 114, 116, 115]⟩, some (.ref 1040)), (some ⟨#[95, 108, 97, 119, 95, 115, 116, 97, 110, 100, 105, 110, 103, 95, 111, 102]⟩, some (.ref 1047)), (some ⟨#[95, 108, 97, 119, 95, 115, 116, 97, 110, 100, 105, 110, 103, 95, 115, 97, 109, 101]⟩, some (.ref 1054)), (some ⟨#[95, 108, 97, 119, 95, 105, 110, 112, 117, 116, 115]⟩, some (.ref 1059)), (some ⟨#[95, 108, 97, 119, 95, 101, 118, 101, 110, 116]⟩, some (.ref 1064)), (some ⟨#[95, 108, 97, 119, 95, 100, 117, 101]⟩, some (.ref 1069)), (some ⟨#[108, 97, 119]⟩, some (.ref 1076))]
def gl : List (Option Str × Option V) := gl0 ++ gl1 ++ gl2 ++ gl3 ++ gl4 ++ gl5
def fns0 : List FRow := [(134, 133, ("is_integer" : Str), ("is_integer" : Str), sp_is_integer), (141, 140, ("is_within" : Str), ("is_within" : Str), sp_is_within), (148, 147, ("is_small" : Str), ("is_small" : Str), sp_is_small), (155, 154, ("is_below" : Str), ("is_below" : Str), sp_is_below), (162, 161, ("is_sized" : Str), ("is_sized" : Str), sp_is_sized), (169, 168, ("is_word" : Str), ("is_word" : Str), sp_is_word), (174, 173, ("is_row" : Str), ("is_row" : Str), sp_is_row), (188, 187, ("__init__" : Str), ("Ground.__init__" : Str), sm_Ground_init), (209, 208, ("sign_of" : Str), ("sign_of" : Str), sp_sign_of), (241, 240, ("expression_size" : Str), ("expression_size" : Str), sp_expression_size), (248, 247, ("expressions_of" : Str), ("expressions_of" : Str), sp_expressions_of), (255, 254, ("bodies_of" : Str), ("bodies_of" : Str), sp_bodies_of), (262, 261, ("has_form" : Str), ("has_form" : Str), sp_has_form), (267, 266, ("statement_size" : Str), ("statement_size" : Str), sp_statement_size), (274, 273, ("body_size" : Str), ("body_size" : Str), sp_body_size), (281, 280, ("is_handler" : Str), ("is_handler" : Str), sp_is_handler), (286, 285, ("are_words" : Str), ("are_words" : Str), sp_are_words), (298, 297, ("__init__" : Str), ("Program.__init__" : Str), sm_Program_init), (326, 325, ("__init__" : Str), ("Kind.__init__" : Str), sm_Kind_init), (373, 372, ("__init__" : Str), ("Game.__init__" : Str), sm_Game_init)]
def fns1 : List FRow := [(394, 393, ("small" : Str), ("small" : Str), sp_small), (401, 400, ("later_seed" : Str), ("later_seed" : Str), sp_later_seed), (408, 407, ("draw" : Str), ("draw" : Str), sp_draw), (415, 414, ("nearer" : Str), ("nearer" : Str), sp_nearer), (420, 419, ("is_id" : Str), ("is_id" : Str), sp_is_id), (427, 426, ("place_of" : Str), ("place_of" : Str), sp_place_of), (441, 440, ("__init__" : Str), ("Standing.__init__" : Str), sm_Standing_init), (467, 466, ("are_inputs" : Str), ("are_inputs" : Str), sp_are_inputs), (474, 473, ("check_inputs" : Str), ("check_inputs" : Str), sp_check_inputs), (488, 487, ("__init__" : Str), ("Effects.__init__" : Str), sm_Effects_init), (495, 494, ("standing" : Str), ("Effects.standing" : Str), sm_Effects_standing), (502, 501, ("spend" : Str), ("Effects.spend" : Str), sm_Effects_spend), (509, 508, ("buttons" : Str), ("Effects.buttons" : Str), sm_Effects_buttons), (516, 515, ("load" : Str), ("Effects.load" : Str), sm_Effects_load), (523, 522, ("store" : Str), ("Effects.store" : Str), sm_Effects_store), (530, 529, ("draw" : Str), ("Effects.draw" : Str), sm_Effects_draw), (537, 536, ("body_of" : Str), ("Effects.body_of" : Str), sm_Effects_body_of), (544, 543, ("make" : Str), ("Effects.make" : Str), sm_Effects_make), (551, 550, ("shove" : Str), ("Effects.shove" : Str), sm_Effects_shove), (558, 557, ("go" : Str), ("Effects.go" : Str), sm_Effects_go)]
def fns2 : List FRow := [(565, 564, ("say" : Str), ("Effects.say" : Str), sm_Effects_say), (579, 578, ("power_bit" : Str), ("power_bit" : Str), sp_power_bit), (586, 585, ("whole_part" : Str), ("whole_part" : Str), sp_whole_part), (593, 592, ("rest_of" : Str), ("rest_of" : Str), sp_rest_of), (600, 599, ("of_two" : Str), ("of_two" : Str), sp_of_two), (607, 606, ("of_one" : Str), ("of_one" : Str), sp_of_one), (614, 613, ("mark_at" : Str), ("mark_at" : Str), sp_mark_at), (621, 620, ("asked_of_body" : Str), ("asked_of_body" : Str), sp_asked_of_body), (628, 627, ("by_one" : Str), ("by_one" : Str), sp_by_one), (635, 634, ("by_two" : Str), ("by_two" : Str), sp_by_two), (642, 641, ("value_of" : Str), ("value_of" : Str), sp_value_of), (647, 646, ("do_plain" : Str), ("do_plain" : Str), sp_do_plain), (654, 653, ("do_body" : Str), ("do_body" : Str), sp_do_body), (661, 660, ("do_statement" : Str), ("do_statement" : Str), sp_do_statement), (668, 667, ("do_while" : Str), ("do_while" : Str), sp_do_while), (673, 672, ("program_of" : Str), ("program_of" : Str), sp_program_of), (680, 679, ("handler_of" : Str), ("handler_of" : Str), sp_handler_of), (687, 686, ("run_handler" : Str), ("run_handler" : Str), sp_run_handler), (694, 693, ("check_call" : Str), ("check_call" : Str), sp_check_call), (701, 700, ("ran" : Str), ("ran" : Str), sp_ran)]
def fns3 : List FRow := [(708, 707, ("_law_hand" : Str), ("_law_hand" : Str), sl_hand), (715, 714, ("_law_take" : Str), ("_law_take" : Str), sl_take), (722, 721, ("_law_pick" : Str), ("_law_pick" : Str), sl_pick), (729, 728, ("_law_wide" : Str), ("_law_wide" : Str), sl_wide), (736, 735, ("_law_small" : Str), ("_law_small" : Str), sl_small), (743, 742, ("_law_seed" : Str), ("_law_seed" : Str), sl_seed), (750, 749, ("_law_is_integer" : Str), ("_law_is_integer" : Str), sl_is_integer), (757, 756, ("_law_same" : Str), ("_law_same" : Str), sl_same), (764, 763, ("_law_ground_sign" : Str), ("_law_ground_sign" : Str), sl_ground_sign), (769, 768, ("_law_rows" : Str), ("_law_rows" : Str), sl_rows), (776, 775, ("_law_ground" : Str), ("_law_ground" : Str), sl_ground), (783, 782, ("_law_sign" : Str), ("_law_sign" : Str), sl_sign), (790, 789, ("_law_program_of" : Str), ("_law_program_of" : Str), sl_program_of), (797, 796, ("_law_kind_of" : Str), ("_law_kind_of" : Str), sl_kind_of), (802, 801, ("_law_game_of" : Str), ("_law_game_of" : Str), sl_game_of), (809, 808, ("_law_word" : Str), ("_law_word" : Str), sl_word), (816, 815, ("_law_one_word" : Str), ("_law_one_word" : Str), sl_one_word), (823, 822, ("_law_two_word" : Str), ("_law_two_word" : Str), sl_two_word), (830, 829, ("_law_leaf" : Str), ("_law_leaf" : Str), sl_leaf), (837, 836, ("_law_tree" : Str), ("_law_tree" : Str), sl_tree)]
def fns4 : List FRow := [(844, 843, ("_law_part" : Str), ("_law_part" : Str), sl_part), (851, 850, ("_law_counted" : Str), ("_law_counted" : Str), sl_counted), (858, 857, ("_law_statement" : Str), ("_law_statement" : Str), sl_statement), (865, 864, ("_law_body" : Str), ("_law_body" : Str), sl_body), (872, 871, ("_law_handler" : Str), ("_law_handler" : Str), sl_handler), (879, 878, ("_law_handlers" : Str), ("_law_handlers" : Str), sl_handlers), (886, 885, ("_law_scripted" : Str), ("_law_scripted" : Str), sl_scripted), (893, 892, ("_law_wrap" : Str), ("_law_wrap" : Str), sl_wrap), (900, 899, ("_law_near" : Str), ("_law_near" : Str), sl_near), (905, 904, ("_law_doing" : Str), ("_law_doing" : Str), sl_doing), (910, 909, ("_law_done" : Str), ("_law_done" : Str), sl_done), (917, 916, ("_law_buttons" : Str), ("_law_buttons" : Str), sl_buttons), (924, 923, ("_law_named" : Str), ("_law_named" : Str), sl_named), (931, 930, ("_law_seen" : Str), ("_law_seen" : Str), sl_seen), (938, 937, ("_law_body_told" : Str), ("_law_body_told" : Str), sl_body_told), (945, 944, ("_law_of_one" : Str), ("_law_of_one" : Str), sl_of_one), (952, 951, ("_law_of_two" : Str), ("_law_of_two" : Str), sl_of_two), (959, 958, ("_law_set" : Str), ("_law_set" : Str), sl_set), (966, 965, ("_law_make" : Str), ("_law_make" : Str), sl_make), (973, 972, ("_law_push" : Str), ("_law_push" : Str), sl_push)]
def fns5 : List FRow := [(980, 979, ("_law_leave" : Str), ("_law_leave" : Str), sl_leave), (987, 986, ("_law_say" : Str), ("_law_say" : Str), sl_say), (994, 993, ("_law_paid" : Str), ("_law_paid" : Str), sl_paid), (1001, 1000, ("_law_value" : Str), ("_law_value" : Str), sl_value), (1006, 1005, ("_law_do" : Str), ("_law_do" : Str), sl_do), (1013, 1012, ("_law_run" : Str), ("_law_run" : Str), sl_run), (1020, 1019, ("_law_rounds" : Str), ("_law_rounds" : Str), sl_rounds), (1025, 1024, ("_law_plain_kinds" : Str), ("_law_plain_kinds" : Str), sl_plain_kinds), (1030, 1029, ("_law_free_signs" : Str), ("_law_free_signs" : Str), sl_free_signs), (1035, 1034, ("_law_plain_bodies" : Str), ("_law_plain_bodies" : Str), sl_plain_bodies), (1040, 1039, ("_law_standing_parts" : Str), ("_law_standing_parts" : Str), sl_standing_parts), (1047, 1046, ("_law_standing_of" : Str), ("_law_standing_of" : Str), sl_standing_of), (1054, 1053, ("_law_standing_same" : Str), ("_law_standing_same" : Str), sl_standing_same), (1059, 1058, ("_law_inputs" : Str), ("_law_inputs" : Str), sl_inputs), (1064, 1063, ("_law_event" : Str), ("_law_event" : Str), sl_event), (1069, 1068, ("_law_due" : Str), ("_law_due" : Str), sl_due), (1076, 1075, ("law" : Str), ("law" : Str), sl_law)]
def fns : List FRow := fns0 ++ fns1 ++ fns2 ++ fns3 ++ fns4 ++ fns5
abbrev cGround : Addr := 198
abbrev cProgram : Addr := 308
abbrev cKind : Addr := 336
abbrev cGame : Addr := 383
abbrev cStanding : Addr := 458
abbrev cEffects : Addr := 568
def clsL : List Addr := [cGround, cProgram, cKind, cGame, cStanding, cEffects]
def mkL : List (Addr × Addr) := [(cGround, 188), (cProgram, 298), (cKind, 326), (cGame, 373), (cStanding, 441), (cEffects, 488)]
def noL : List (Addr × Str) := [(cGround, ("rows" : Str)), (cGround, ("wide" : Str)), (cGround, ("high" : Str)), (cProgram, ("handlers" : Str)), (cProgram, ("made_codes" : Str)), (cKind, ("wide" : Str)), (cKind, ("high" : Str)), (cKind, ("solid" : Str)), (cKind, ("pull" : Str)), (cKind, ("program" : Str)), (cGame, ("players" : Str)), (cGame, ("ground" : Str)), (cGame, ("kinds" : Str)), (cGame, ("births" : Str)), (cStanding, ("tick" : Str)), (cStanding, ("seed" : Str)), (cStanding, ("shared" : Str)), (cStanding, ("bodies" : Str)), (cStanding, ("said" : Str)), (cStanding, ("asked" : Str)), (cStanding, ("leaving" : Str)), (cEffects, ("game" : Str)), (cEffects, ("tick" : Str)), (cEffects, ("seed" : Str)), (cEffects, ("shared" : Str)), (cEffects, ("bodies" : Str)), (cEffects, ("said" : Str)), (cEffects, ("asked" : Str)), (cEffects, ("leaving" : Str)), (cEffects, ("number" : Str)), (cEffects, ("other" : Str)), (cEffects, ("side" : Str)), (cEffects, ("told_inputs" : Str)), (cEffects, ("at" : Str)), (cEffects, ("fuel" : Str))]
def meL : List (Addr × Str × Addr) := [(cEffects, ("standing" : Str), 495), (cEffects, ("spend" : Str), 502), (cEffects, ("buttons" : Str), 509), (cEffects, ("load" : Str), 516), (cEffects, ("store" : Str), 523), (cEffects, ("draw" : Str), 530), (cEffects, ("body_of" : Str), 537), (cEffects, ("make" : Str), 544), (cEffects, ("shove" : Str), 551), (cEffects, ("go" : Str), 558), (cEffects, ("say" : Str), 565)]
def tuL : List (Addr × List Str) := [(223, ["c0", "c1", "c2", "c3"]), (229, ["not", "minus"]), (235, ["tick", "touch", "wall"]), (228, ["x", "y", "tick", "id", "owner", "buttons", "other", "side", "dx", "dy", "c0", "c1", "c2", "c3", "s0", "s1", "s2", "s3", "s4", "s5", "s6", "s7"]), (231, ["not", "minus", "draw", "press", "kind", "left", "top"]), (226, ["dx", "dy", "c0", "c1", "c2", "c3", "s0", "s1", "s2", "s3", "s4", "s5", "s6", "s7"]), (224, ["s0", "s1", "s2", "s3", "s4", "s5", "s6", "s7"]), (234, ["add", "sub", "mul", "div", "rest", "less", "same", "and", "or", "cell"])]
abbrev aLENGTHS : Addr := 236
def lensK : List Str := ["set", "make", "push", "gone", "say", "if", "while"]
def lensV : List (Str × He.Dv) := [("set", .int 3), ("make", .int 5), ("push", .int 4), ("gone", .int 1), ("say", .int 2), ("if", .int 4), ("while", .int 3)]
def addrs0 : List Addr := [3, 133, 134, 140, 141, 147, 148, 154, 155, 161, 162, 168, 169, 173, 174, 187, 188, 197, 198, 208, 209, 223, 224, 226, 228, 229, 231, 234, 235, 236, 240, 241]
def addrs1 : List Addr := [247, 248, 254, 255, 261, 262, 266, 267, 273, 274, 280, 281, 285, 286, 297, 298, 307, 308, 325, 326, 335, 336, 372, 373, 382, 383, 393, 394, 400, 401, 407, 408]
def addrs2 : List Addr := [414, 415, 419, 420, 426, 427, 440, 441, 457, 458, 466, 467, 473, 474, 487, 488, 494, 495, 501, 502, 508, 509, 515, 516, 522, 523, 529, 530, 536, 537, 543, 544]
def addrs3 : List Addr := [550, 551, 557, 558, 564, 565, 567, 568, 578, 579, 585, 586, 592, 593, 599, 600, 606, 607, 613, 614, 620, 621, 627, 628, 634, 635, 641, 642, 646, 647, 653, 654]
def addrs4 : List Addr := [660, 661, 667, 668, 672, 673, 679, 680, 686, 687, 693, 694, 700, 701, 707, 708, 714, 715, 721, 722, 728, 729, 735, 736, 742, 743, 749, 750, 756, 757, 763, 764]
def addrs5 : List Addr := [768, 769, 775, 776, 782, 783, 789, 790, 796, 797, 801, 802, 808, 809, 815, 816, 822, 823, 829, 830, 836, 837, 843, 844, 850, 851, 857, 858, 864, 865, 871, 872]
def addrs6 : List Addr := [878, 879, 885, 886, 892, 893, 899, 900, 904, 905, 909, 910, 916, 917, 923, 924, 930, 931, 937, 938, 944, 945, 951, 952, 958, 959, 965, 966, 972, 973, 979, 980]
def addrs7 : List Addr := [986, 987, 993, 994, 1000, 1001, 1005, 1006, 1012, 1013, 1019, 1020, 1024, 1025, 1029, 1030, 1034, 1035, 1039, 1040, 1046, 1047, 1053, 1054, 1058, 1059, 1063, 1064, 1068, 1069, 1075, 1076]
def addrs : List Addr := addrs0 ++ addrs1 ++ addrs2 ++ addrs3 ++ addrs4 ++ addrs5 ++ addrs6 ++ addrs7
def names0 : List PySem.Str := ["WorldError", "BadGround", "BadProgram", "BadKind", "BadGame", "NoBody", "NoInputs", "LEAST_SMALL", "MOST_SMALL", "is_integer", "is_within", "is_small", "is_below", "is_sized", "is_word", "CELL", "MOST_ROWS", "MOST_SIGNS", "MOST_SIDE", "FREE", "WALL", "MARKS", "is_row", "Ground", "sign_of", "spanned", "opens", "MOST_DEEP", "MOST_PARTS", "MOST_BODIES"]
def names1 : List PySem.Str := ["MOST_STATEMENTS", "MOST_IN_ALL", "MOST_KINDS", "NUMBER", "NAME", "SPEEDS", "CELLS", "SHARED", "SETS", "NAMES", "CONSTANT_ONES", "ONES", "CONSTANT_TWOS", "TWOS", "SET", "MAKE", "PUSH", "GONE", "SAY", "IF", "WHILE", "EVENTS", "LENGTHS", "expression_size", "expressions_of", "bodies_of", "has_form", "statement_size", "body_size", "is_handler"]
def names2 : List PySem.Str := ["are_words", "Program", "MOST_PULL", "MOST_PLAYERS", "MOST_BIRTHS", "Kind", "shares", "is_clear", "is_birth", "Game", "WHOLE", "PRIME", "STEP", "small", "later_seed", "draw", "draw_numbers", "nearer", "MOST_SAID", "MOST_SPEED", "is_id", "place_of", "MOST_INPUT", "MOST_ASKED", "FUEL", "Standing", "are_inputs", "check_inputs", "Effects", "power_bit"]
def names3 : List PySem.Str := ["whole_part", "rest_of", "of_two", "of_one", "MARK_FREE", "MARK_WALL", "mark_at", "asked_of_body", "by_one", "by_two", "value_of", "do_plain", "do_body", "do_statement", "do_while", "program_of", "handler_of", "run_handler", "check_call", "ran", "_law_hand", "_law_take", "_law_pick", "_law_wide", "_law_small", "_law_seed", "_law_is_integer", "_law_same", "_law_ground_sign", "_law_rows"]
def names4 : List PySem.Str := ["_law_ground", "_law_sign", "_law_program_of", "_law_kind_of", "_law_game_of", "_law_word", "_law_one_word", "_law_two_word", "_law_leaf", "_law_tree", "_law_part", "_law_counted", "_law_statement", "_law_body", "_law_handler", "_law_handlers", "_law_scripted", "_law_wrap", "_law_near", "_law_doing", "_law_done", "_law_buttons", "_law_named", "_law_seen", "_law_body_told", "_law_of_one", "_law_of_two", "_law_set", "_law_make", "_law_push"]
def names5 : List PySem.Str := ["_law_leave", "_law_say", "_law_paid", "_law_value", "_law_do", "_law_run", "_law_rounds", "_law_plain_kinds", "_law_free_signs", "_law_plain_bodies", "_law_standing_parts", "_law_standing_of", "_law_standing_same", "_law_inputs", "_law_event", "_law_due"]
def names : List PySem.Str := names0 ++ names1 ++ names2 ++ names3 ++ names4 ++ names5

abbrev R : PySem.W.OpenRow := PySem.W.OpenLaw.row PySem.Challenge.rw_guessedworlds_k10_whole_handlers_run_tre
def keyS : Value → Option Str
  | .str x _ => some x
  | _ => none
def glB (g : Addr → Option Obj) : List (Option Str × Option V) := match g 3 with
  | some ⟨_, _, .dict es _, _⟩ => es.toList.map fun e => (keyS e.key, absV e.val)
  | _ => []
abbrev FnC : Type := Option (Str × Str × Arguments × FuncBody × Scope × Addr × List (Str × Addr) × Value × Addr × Option (Addr × Str))
def codeN (g : Addr → Option Obj) : Value → Option (Addr × Str)
  | .ref c => (match g c with
    | some ⟨_, _, .fields vs, _⟩ => (match vs.toList with
      | _ :: .str n _ :: _ => some (c, n)
      | _ => none)
    | _ => none)
  | _ => none
def fnO (g : Addr → Option Obj) (a : Addr) : FnC := match g a with
  | some ⟨_, _, .func fd, _⟩ => some (fd.name, fd.qualname, fd.params, fd.body, fd.scope, fd.globals, fd.closure, fd.defaults, fd.builtins, codeN g fd.code)
  | _ => none
def rowV (r : FRow) : FnC := some (r.2.2.1, r.2.2.2.1, defArgs r.2.2.2.2, .stmts (defBody r.2.2.2.2), defScope r.2.2.2.2, mainGlobals, [], .none, builtinsNs, some (r.2.1, r.2.2.2.1))
def clsB (K : PySem.W.Frag) (C : Addr) : Bool := PySem.W.plainGet K C Str.empty && (PySem.W.hasDictIn K C && (PySem.W.plainOver K C && He.eqO (PySem.W.findIn K (.ref C) "__setattr__") (some (some (.builtin "object.__setattr__")))))
def mkB (K : PySem.W.Frag) (p : Addr × Addr) : Bool := PySem.W.makesIn K p.1 && (He.eqO (PySem.W.findIn K (.ref p.1) "__init__") (some (some (.ref p.2))) && (PySem.W.isFn K (.ref p.2) && PySem.W.keepIn K (.ref p.1)))
def noB (K : PySem.W.Frag) (p : Addr × Str) : Bool := He.eqO (PySem.W.findIn K (.ref p.1) p.2) (some none)
def meB (K : PySem.W.Frag) (p : Addr × Str × Addr) : Bool := He.eqO (PySem.W.findIn K (.ref p.1) p.2.1) (some (some (.ref p.2.2))) && (PySem.W.isFn K (.ref p.2.2) && PySem.W.keepIn K (.ref p.2.2))
def isB (K : PySem.W.Frag) (C : Addr) : Bool := He.eqO (PySem.W.findIn K (.ref C) "__class__") (some (some (.builtin "object.__class__"))) && (He.eqO (PySem.W.specialIn K (.builtin "object.__class__") "__get__") (some (some (.builtin "getset_descriptor.__get__"))) && (decide (PySem.W.takesIn K (.builtin "object.__class__") = some true) && decide (PySem.W.mroIn K C (.type "object") = some true)))
def tuB (K : PySem.W.Frag) (p : Addr × List Str) : Bool := match K.lookup p.1 with
  | some ⟨.type c, none, .seq its _, _⟩ => decide (c = "tuple") && (decide (its.size ≤ sizeLine) && He.relAll (p.2.map V.str) its.toList)
  | _ => false
def chB (K : PySem.W.Frag) : Bool := clsL.all (fun C => clsB K C && isB K C) && (mkL.all (mkB K) && (noL.all (noB K) && (meL.all (meB K) && (tuL.all (tuB K) && He.valsB K aLENGTHS lensV))))
abbrev AlY : Type := List (Option Str × Option V) × List FnC × Option (List (Option (Str × Int))) × Bool
def KY (g : Addr → Option Obj) : PySem.W.Frag := He.frG g addrs
def obsY (g : Addr → Option Obj) : AlY := (glB g, fns.map (fun r => fnO g r.1), He.dicW (KY g) aLENGTHS, chB (KY g))
def valY (w : World) : AlY := (gl, fns.map rowV, some (He.keysIn w.params lensK), true)
structure SaysY (w : World) (h : Heap) : Prop where
  g1 : glB h.get? = gl
  g2 : fns.map (fun r => fnO h.get? r.1) = fns.map rowV
  g3 : He.dicW (KY h.get?) aLENGTHS = some (He.keysIn w.params lensK)
  g4 : chB (KY h.get?) = true
def hookY : PySem.W.Hook where
  α := AlY
  obs := fun s => obsY s.heap.get?
  val := valY
  says := fun w h => ∃ h0 : Heap, SaysY w h0 ∧ ∀ b o, h0.get? b = some o → h.get? b = some o
  of := fun _ s e => ⟨s.heap, ⟨congrArg (fun z : AlY => z.1) e, congrArg (fun z : AlY => z.2.1) e, congrArg (fun z : AlY => z.2.2.1) e, congrArg (fun z : AlY => z.2.2.2) e⟩, fun _ _ q => q⟩
  keeps := fun _ _ _ ⟨h0, c, k0⟩ k => ⟨h0, c, fun b o q => k b o (k0 b o q)⟩
def ob (s : PySem.W.SharedT) : AlY := obsY (HandSHeadRun.getT s)
theorem ob_eq (s : PySem.W.SharedT) : ob s = hookY.obs s.abs := by
  have e : HandSHeadRun.getT s = s.abs.heap.get? := funext (HandSHeadRun.getT_eq s)
  show obsY (HandSHeadRun.getT s) = obsY s.abs.heap.get?
  rw [e]
end G
set_option Elab.async false
set_option maxRecDepth 100000
set_option maxHeartbeats 0
namespace G
open PySem PySem.Spec PyProof.Rows L2

theorem run_f (w : World) : HandSHeadRun.RunEq R (PySem.W.view R.prog [176]) hookY ob 9000 names (w.withFollow "special-get-raises" false) := by
  intro os
  kernel_rfl
theorem run_t (w : World) : HandSHeadRun.RunEq R (PySem.W.view R.prog [176]) hookY ob 9000 names (w.withFollow "special-get-raises" true) := by
  intro os
  kernel_rfl
theorem run (w : World) : HandSHeadRun.RunEq R (PySem.W.view R.prog [176]) hookY ob 9000 names w :=
  PySem.W.byRow2 "special-get-raises" (P := fun w => HandSHeadRun.RunEq R (PySem.W.view R.prog [176]) hookY ob 9000 names w) run_f run_t w
end G
set_option Elab.async false
set_option maxRecDepth 100000
set_option maxHeartbeats 4000000
namespace G
open PySem PySem.Spec PyProof.Rows L2
/-! what every def may lean on: Tx -/
noncomputable def frB (x : Str) : Bool := gl.all fun p => match p.1 with
  | some y => !(PySem.W.Fast.sEq y x)
  | none => false
structure InsF (K : PySem.W.Frag) (C : Addr) : Prop where
  ha : PySem.W.findIn K (.ref C) "__class__" = some (some (.builtin "object.__class__"))
  hn : PySem.W.specialIn K (.builtin "object.__class__") "__get__" = some (some (.builtin "getset_descriptor.__get__"))
  htk : PySem.W.takesIn K (.builtin "object.__class__") = some true
  hm : PySem.W.mroIn K C (.type "object") = some true
structure Tx (w : World) (K : PySem.W.Frag) (mg : Str → Option Value) : Prop where
  fn : ∀ (i : Nat) (r : FRow), fns[i]? = some r → ∃ fd, Fun K r.2.2.1 r.2.2.2.1 r.2.2.2.2 r.1 fd
  gl : ∀ (i : Nat) (x : Str) (v : V), gl[i]? = some (some x, some v) → ∃ u, mg x = some u ∧ RelV v u
  fr : ∀ x : Str, frB x = true → mg x = none
  cl : ∀ C, C ∈ clsL → Cls K C
  ic : ∀ C, C ∈ clsL → InsF K C
  mkc : ∀ p, p ∈ mkL → Mk K p.1 p.2
  no : ∀ p, p ∈ noL → NoAttr K p.1 p.2
  me : ∀ p, p ∈ meL → Meth K p.1 p.2.1 p.2.2
  tu : ∀ p, p ∈ tuL → ∃ (its : Array Value) (n : Nat) (sl : Array (Option Value)), K.lookup p.1 = some ⟨.type "tuple", none, .seq its n, sl⟩ ∧ its.size ≤ sizeLine ∧ Vals (p.2.map V.str) its.toList
  kd : ∃ es n, KDict K w aLENGTHS es n
  kv : ∀ q, q ∈ lensV → ∃ u, PySem.W.nsIn K aLENGTHS q.1 = some (some u) ∧ RelV (q.2.v K) u
theorem absV_rel {u : Value} {v : V} (h : absV u = some v) : RelV v u := by
  cases u <;> cases h <;> first | rfl | exact ⟨_, rfl⟩
theorem frG_look {g : Addr → Option Obj} {a : Addr} : ∀ as : List Addr, a ∈ as → (He.frG g as).lookup a = g a
  | [], h => nomatch h
  | b :: r, h => by
    unfold He.frG
    cases hb : g b with
    | none =>
      rw [List.filterMap_cons, hb]
      show (He.frG g r).lookup a = g a
      by_cases e : a = b
      · subst e
        cases q : (He.frG g r).lookup a with
        | none => exact hb.symm
        | some o => exact (He.frG_at r q).symm
      · exact frG_look r ((List.mem_cons.mp h).resolve_left e)
    | some ob =>
      rw [List.filterMap_cons, hb]
      show (match a == b with | true => some ob | false => (He.frG g r).lookup a) = g a
      by_cases e : a = b
      · subst e
        rw [show (a == a) = true from beq_self_eq_true a]
        exact hb.symm
      · rw [show (a == b) = false from beq_eq_false_iff_ne.mpr e]
        exact frG_look r ((List.mem_cons.mp h).resolve_left e)
theorem keyS_is {u : Value} {x : Str} (h : keyS u = some x) (n : Str) : u.isStr n = (x == n) := by
  cases u <;> cases h <;> rfl
theorem find_gl {es : List DictEntry} {l : List (Option Str × Option V)} (e : es.map (fun e => (keyS e.key, absV e.val)) = l) {i : Nat} {x : Str} {v : V} (hi : l[i]? = some (some x, some v)) (hn : (l.map (·.1)).Nodup) :
    ∃ en, es.find? (·.key.isStr x) = some en ∧ RelV v en.val := by
  subst e
  induction es generalizing i with
  | nil => simp at hi
  | cons a r ih =>
    rw [List.map_cons, List.map_cons, List.nodup_cons] at hn
    cases i with
    | zero =>
      have h0 : (keyS a.key, absV a.val) = (some x, some v) := by simpa using hi
      have h1 : keyS a.key = some x := congrArg Prod.fst h0
      have h2 : absV a.val = some v := congrArg Prod.snd h0
      refine ⟨a, ?_, absV_rel h2⟩
      rw [List.find?_cons_of_pos]
      rw [keyS_is h1]
      exact beq_self_eq_true x
    | succ i =>
      have hi' : (r.map (fun e => (keyS e.key, absV e.val)))[i]? = some (some x, some v) := by simpa using hi
      obtain ⟨en, h1, h2⟩ := ih hi' hn.2
      refine ⟨en, ?_, h2⟩
      rw [List.find?_cons_of_neg]
      · exact h1
      · intro q
        have hk : keyS a.key = some x := by
          cases ea : a.key <;> rw [ea] at q <;> first | (cases q; done) | skip
          rename_i y t
          have : (y == x) = true := q
          rw [show y = x from eq_of_beq this]
          rfl
        apply hn.1
        rw [hk]
        exact List.mem_map.mpr ⟨(some x, some v), List.mem_of_getElem? hi', rfl⟩
theorem find_fr {es : List DictEntry} {l : List (Option Str × Option V)} (e : es.map (fun e => (keyS e.key, absV e.val)) = l) {x : Str} (h : (l.all fun p => match p.1 with
    | some y => !(PySem.W.Fast.sEq y x)
    | none => false) = true) : es.find? (·.key.isStr x) = none ∧ es.any (·.refKey) = false := by
  subst e
  induction es with
  | nil => exact ⟨rfl, rfl⟩
  | cons a r ih =>
    rw [List.map_cons, List.all_cons, Bool.and_eq_true] at h
    obtain ⟨i1, i2⟩ := ih h.2
    have h1 := h.1
    cases ek : keyS a.key with
    | none => rw [ek] at h1; cases h1
    | some y =>
      rw [ek] at h1
      have h1' : (!(PySem.W.Fast.sEq y x)) = true := h1
      refine ⟨?_, ?_⟩
      · rw [List.find?_cons_of_neg]
        · exact i1
        · rw [keyS_is ek]
          intro z
          rw [PySem.W.Fast.sEq_iff.mpr (eq_of_beq z)] at h1'
          cases h1'
      · rw [List.any_cons, i2]
        have : a.refKey = false := by
          unfold DictEntry.refKey
          cases ea : a.key <;> rw [ea] at ek <;> first | (cases ek; done) | rfl
        rw [this]
        rfl
noncomputable def codeO : Option Str → Nat
  | some s => PySem.W.Fast.code s.cps.toList
  | none => 0
theorem gl_nodupC : ((gl.map (·.1)).map codeO).Nodup := by decide +kernel
theorem gl_nodup : (gl.map (·.1)).Nodup := List.Pairwise.of_map codeO (fun _ _ h e => h (congrArg codeO e)) gl_nodupC
theorem in_addrs : (fns.all fun r => addrs.contains r.1 && addrs.contains r.2.1) = true := by decide +kernel
theorem mem3 : (3 : Addr) ∈ addrs := by decide +kernel
theorem tx_of {w : World} {h0 h : Heap} {mg : Str → Option Value} (S : SaysY w h0) (X : (KY h0.get?).In h) (Gm : h.Ns mainGlobals mg) : Tx w (KY h0.get?) mg := by
  have S4 := S.g4
  unfold chB at S4
  obtain ⟨c1, S4⟩ := He.ba S4
  obtain ⟨c2, S4⟩ := He.ba S4
  obtain ⟨c3, S4⟩ := He.ba S4
  obtain ⟨c4, S4⟩ := He.ba S4
  obtain ⟨c5, c6⟩ := He.ba S4
  have lk : ∀ a, a ∈ addrs → (KY h0.get?).lookup a = h0.get? a := fun a ha => frG_look addrs ha
  have g1 := S.g1
  have gls : ∃ oc od es n sl, (KY h0.get?).lookup mainGlobals = some ⟨oc, od, .dict es n, sl⟩ ∧ es.toList.map (fun e => (keyS e.key, absV e.val)) = gl := by
    rw [show mainGlobals = 3 from rfl, lk 3 mem3]
    unfold glB at g1
    split at g1
    · rename_i c d es n sl q
      exact ⟨c, d, es, n, sl, q, g1⟩
    · have : (gl).length = 0 := by rw [← g1]; rfl
      exact absurd this (by decide +kernel)
  obtain ⟨oc, od, es, n, sl, q3, e3⟩ := gls
  refine ⟨fun i r hi => ?_, fun i x v hi => ?_, fun x hx => ?_, fun C hC => ?_, fun C hC => ?_, fun p hp => ?_, fun p hp => ?_, fun p hp => ?_, fun p hp => ?_, ?_, fun p hp => He.valsB_ok c6 hp⟩
  · have hr : r ∈ fns := List.mem_of_getElem? hi
    have ha := List.all_eq_true.mp in_addrs r hr
    obtain ⟨a1, a2⟩ := He.ba ha
    have a1' : r.1 ∈ addrs := List.contains_iff_mem.mp a1
    have a2' : r.2.1 ∈ addrs := List.contains_iff_mem.mp a2
    have e2 : (fns.map (fun r => fnO h0.get? r.1))[i]? = (fns.map rowV)[i]? := by rw [S.g2]
    rw [List.getElem?_map, List.getElem?_map, hi] at e2
    have e : fnO h0.get? r.1 = rowV r := Option.some.inj e2
    obtain ⟨f, c, x, qual, st⟩ := r
    have e : fnO h0.get? f = rowV (f, c, x, qual, st) := e
    have l1 := lk f a1'
    have l2 := lk c a2'
    unfold fnO at e
    cases qf : h0.get? f with
    | none => rw [qf] at e; cases e
    | some o =>
      obtain ⟨oc, od, dt, osl⟩ := o
      rw [qf] at e l1
      cases dt with
      | func fd =>
        obtain ⟨n1, n2, n3, n4, n5, n6, n7, n8, n9, n10, n11, n12, n13, n14, n15⟩ := fd
        have e2 : (some (n1, n2, n3, n4, n5, n6, n7, n8, n15, codeN h0.get? n13) : FnC) = some (x, qual, defArgs st, .stmts (defBody st), defScope st, mainGlobals, [], .none, builtinsNs, some (c, qual)) := e
        simp only [Option.some.injEq, Prod.mk.injEq] at e2
        obtain ⟨h1, h2, h3, h4, h5, h6, h7, h8, h9, h10⟩ := e2
        subst h1 h2 h3 h4 h5 h6 h7 h8 h9
        refine ⟨_, ⟨oc, od, n9, n10, n11, n12, n13, n14, osl, rfl, l1, ?_⟩, ?_⟩
        · unfold codeN at h10
          cases n13 with
          | ref c' =>
            have h11 : (match h0.get? c' with
              | some ⟨_, _, .fields vs, _⟩ => (match vs.toList with
                | _ :: .str n _ :: _ => some (c', n)
                | _ => none)
              | _ => none) = some (c, n2) := h10
            unfold PySem.W.codeIn
            have hcc : c' = c ∧ ∃ oc od vs osl a t r, h0.get? c' = some ⟨oc, od, .fields vs, osl⟩ ∧ vs.toList = a :: .str n2 t :: r := by
              cases qc : h0.get? c' with
              | none => rw [qc] at h11; cases h11
              | some o =>
                obtain ⟨oc, od, dt, osl⟩ := o
                rw [qc] at h11
                cases dt with
                | fields vs =>
                  have h12 : (match vs.toList with
                    | _ :: .str n _ :: _ => some (c', n)
                    | _ => none) = some (c, n2) := h11
                  cases ev : vs.toList with
                  | nil => rw [ev] at h12; cases h12
                  | cons a r =>
                    rw [ev] at h12
                    cases r with
                    | nil => cases h12
                    | cons b r =>
                      cases b with
                      | str y t =>
                        have h13 : some (c', y) = some (c, n2) := h12
                        simp only [Option.some.injEq, Prod.mk.injEq] at h13
                        exact ⟨h13.1, oc, od, vs, osl, a, t, r, rfl, by rw [h13.2] at ev; exact ev⟩
                      | _ => cases h12
                | _ => cases h11
            obtain ⟨ec, oc, od, vs, osl, a, t, r, q, ev⟩ := hcc
            subst ec
            rw [q] at l2
            show (match (KY h0.get?).lookup c' with
              | some ⟨_, _, .fields vs, _⟩ => (match vs.toList with | _ :: .str n _ :: _ => n == n2 | _ => false)
              | _ => false) = true
            rw [l2]
            show (match vs.toList with | _ :: .str n _ :: _ => n == n2 | _ => false) = true
            rw [ev]
            exact beq_self_eq_true n2
          | _ => cases h10
        · unfold PySem.W.keepIn
          show (match (KY h0.get?).lookup f with
            | some ⟨_, _, .func _, _⟩ => true
            | some ⟨_, _, .cls _, _⟩ => PySem.W.specialIn (KY h0.get?) (.ref f) "__call__" == some (some (.builtin "type.__call__"))
            | _ => false) = true
          rw [l1]
      | _ => cases e
  · obtain ⟨en, f1, f2⟩ := find_gl e3 hi gl_nodup
    refine ⟨en.val, PySem.W.mg_of X Gm ?_, f2⟩
    unfold PySem.W.nsIn
    rw [q3]
    show (match es.toList.find? (·.key.isStr x) with
      | some e => some (some e.val)
      | none => if es.toList.any (·.refKey) then none else some none) = _
    rw [f1]
  · obtain ⟨f1, f2⟩ := find_fr e3 (x := x) hx
    refine PySem.W.mg_none_of X Gm ?_
    unfold PySem.W.nsIn
    rw [q3]
    show (match es.toList.find? (·.key.isStr x) with
      | some e => some (some e.val)
      | none => if es.toList.any (·.refKey) then none else some none) = _
    rw [f1]
    show (if es.toList.any (·.refKey) then none else some none) = _
    rw [f2]
    rfl
  · have c := (He.ba (List.all_eq_true.mp c1 C hC)).1
    obtain ⟨k1, c⟩ := He.ba c
    obtain ⟨k2, c⟩ := He.ba c
    obtain ⟨k3, k4⟩ := He.ba c
    exact ⟨k1, k2, k3, He.eqO_ok k4⟩
  · have c := (He.ba (List.all_eq_true.mp c1 C hC)).2
    obtain ⟨k1, c⟩ := He.ba c
    obtain ⟨k2, c⟩ := He.ba c
    obtain ⟨k3, k4⟩ := He.ba c
    exact ⟨He.eqO_ok k1, He.eqO_ok k2, of_decide_eq_true k3, of_decide_eq_true k4⟩
  · have c := List.all_eq_true.mp c2 p hp
    obtain ⟨k1, c⟩ := He.ba c
    obtain ⟨k2, c⟩ := He.ba c
    obtain ⟨k3, k4⟩ := He.ba c
    exact ⟨k1, He.eqO_ok k2, k3, k4⟩
  · exact He.eqO_ok (List.all_eq_true.mp c3 p hp)
  · have c := List.all_eq_true.mp c4 p hp
    obtain ⟨k1, c⟩ := He.ba c
    obtain ⟨k2, k3⟩ := He.ba c
    exact ⟨He.eqO_ok k1, k2, k3⟩
  · have c := List.all_eq_true.mp c5 p hp
    obtain ⟨a, xs⟩ := p
    unfold tuB at c
    have c' : (match (KY h0.get?).lookup a with
      | some ⟨.type c, none, .seq its _, _⟩ => decide (c = "tuple") && (decide (its.size ≤ sizeLine) && He.relAll (xs.map V.str) its.toList)
      | _ => false) = true := c
    show ∃ (its : Array Value) (n : Nat) (sl : Array (Option Value)), (KY h0.get?).lookup a = some ⟨.type "tuple", none, .seq its n, sl⟩ ∧ its.size ≤ sizeLine ∧ Vals (xs.map V.str) its.toList
    cases q : (KY h0.get?).lookup a with
    | none => rw [q] at c'; cases c'
    | some o =>
      obtain ⟨oc, od, dt, osl⟩ := o
      rw [q] at c'
      cases oc with
      | type t =>
        cases od with
        | none =>
          cases dt with
          | seq its n =>
            obtain ⟨h1, h2⟩ := He.ba (show (decide (t = "tuple") && (decide (its.size ≤ sizeLine) && He.relAll (xs.map V.str) its.toList)) = true from c')
            obtain ⟨h3, h4⟩ := He.ba h2
            have e := of_decide_eq_true h1
            subst e
            exact ⟨its, n, osl, rfl, of_decide_eq_true h3, He.relAll_ok h4⟩
          | _ => cases c'
        | some d => cases dt <;> cases c'
      | _ => cases od <;> cases dt <;> cases c'
  · exact He.dicW_ok S.g3
end G
set_option Elab.async false
set_option linter.all false
set_option maxRecDepth 100000
set_option maxHeartbeats 4000000
namespace G
open PySem PySem.Spec PyProof.Rows L2
/-! ### calls by the name of the def -/
structure Cal (P : Program) (w : World) (K : PySem.W.Frag) (mg : Str → Option Value) (base : Heap) (x : Str) (k : Nat) (ps : List Str) (sp : Sp) : Prop where
  ex : ∃ f fd, mg x = some (.ref f) ∧ PySem.W.keepIn K (.ref f) = true ∧ Binds K fd ps [] ∧ FnOk P w K mg base CX0 k f fd ps sp
structure CalM (P : Program) (w : World) (K : PySem.W.Frag) (mg : Str → Option Value) (base : Heap) (C : Addr) (m : Str) (k : Nat) (ps : List Str) (sp : Sp) : Prop where
  ex : ∃ f fd, Meth K C m f ∧ Binds K fd ps [] ∧ FnOk P w K mg base CX0 k f fd ps sp
structure CalI (P : Program) (w : World) (K : PySem.W.Frag) (mg : Str → Option Value) (base : Heap) (C : Addr) (x : Str) (k : Nat) (ps : List Str) (sp : Sp) : Prop where
  ex : ∃ f fd, mg x = some (.ref C) ∧ Mk K C f ∧ Binds K fd ps [] ∧ FnOk P w K mg base CX0 k f fd ps sp
def tK (sp : Sp) (t : TA) : TE := fun σ H Q => t σ H fun vs H1 => sp vs H1 Q E0
def tM (C : Addr) (m : Str) (sp : Sp) (ta : TE) (t : TA) : TE := fun σ H Q => ta σ H fun x H1 => ∃ a dx fs, x = .ref a ∧ H1 a = some (.ins C dx fs) ∧ fs.lookup m = none ∧ t σ H1 fun vs H2 => sp (x :: vs) H2 Q E0
def tI (C : Addr) (sp : Sp) (t : TA) : TE := fun σ H Q => t σ H fun vs H1 => ∀ x dx, H1 x = none → H1 dx = none → dx ≠ x →
  sp (.ref x :: vs) (upd (upd H1 dx (.own x)) x (.ins C dx [])) (fun v H2 => v = .non ∧ Q (.ref x) H2) E0
section
variable {X : Cx} {x m : Str} {k : Nat} {C : Addr} {ps : List Str} {sp : Sp} {e o : Expr} {es : List Expr} {t : TA} {ta : TE} {p pos apos : Pos}
theorem pe_cg {t u : TE} (h : PE X e t) (q : ∀ σ H Q, u σ H Q → t σ H Q) : PE X e u := ⟨fun pins s σ H Q I w => h.run pins s σ H Q I (q σ H Q w)⟩
theorem pe_k (Cl : Cal X.prog X.w X.K X.mg X.base x k ps sp) (hr : Room k X.A) (ha : PA X (e :: es) t) (hg : Gl X x := by rfl) (hdb : (x == ("__debug__" : Str)) = false := by decide)
    (he : starEach (e :: es) X.env = (false, eval e X.env) :: starEach es X.env := by rfl) (hpl : (backTo pos (starEach es X.env)).any (·.1) = false := by rfl) :
    PE X (.Call (.Name x p) (e :: es) [] pos) (tK sp t) := by
  obtain ⟨f, fd, hm, hk, hb, F⟩ := Cl.ex
  refine pe_cg (pe_call F hr hg hm hk hb .nil pass0 ha hdb he hpl) fun σ H Q w => ?_
  unfold tCall
  simp only [List.append_nil]
  exact w
theorem pe_m (Cl : CalM X.prog X.w X.K X.mg X.base C m k ps sp) (c : Cls X.K C) (hr : Room k X.A) (ho : PE X o ta) (ha : PA X (e :: es) t) {pl : Sem Bool}
    (hst : starEach (e :: es) X.env = (false, eval e X.env) :: starEach es X.env := by rfl) (hpl : (backTo pos (starEach es X.env)).any (·.1) = false := by rfl)
    (ht : eval (.Call (.Attribute o m apos) (e :: es) [] pos) X.env = (do
      let ov ← eval o X.env
      standAt apos.atName
      let (f, first) ← holding [ov] (getMethod ov m pl)
      callWith pos f first (backTo pos (starEach (e :: es) X.env)) (backToKw pos (keywordEach [] X.env))) := by rfl) :
    PE X (.Call (.Attribute o m apos) (e :: es) [] pos) (tM C m sp ta t) := by
  obtain ⟨f, fd, hm, hb, F⟩ := Cl.ex
  refine pe_cg (pe_meth ho c hm F hr hb .nil pass0 ha hst hpl ht) fun σ H Q w => ?_
  unfold tMeth
  simp only [List.append_nil]
  exact w
theorem pe_m0 (Cl : CalM X.prog X.w X.K X.mg X.base C m k ps sp) (c : Cls X.K C) (hr : Room k X.A) (ho : PE X o ta) {pl : Sem Bool}
    (ht : eval (.Call (.Attribute o m apos) [] [] pos) X.env = (do
      let ov ← eval o X.env
      standAt apos.atName
      let (f, first) ← holding [ov] (getMethod ov m pl)
      callWith pos f first (backTo pos (starEach [] X.env)) (backToKw pos (keywordEach [] X.env))) := by rfl) :
    PE X (.Call (.Attribute o m apos) [] [] pos) (tM C m sp ta tNil) := by
  obtain ⟨f, fd, hm, hb, F⟩ := Cl.ex
  refine pe_cg (pe_meth0 ho c hm F hr hb .nil pass0 ht) fun σ H Q w => ?_
  unfold tMeth
  simp only [List.append_nil]
  exact w
theorem pe_i (Cl : CalI X.prog X.w X.K X.mg X.base C x k ps sp) (hr : Room (k + 1) X.A) (ha : PA X (e :: es) t) (hg : Gl X x := by rfl) (hdb : (x == ("__debug__" : Str)) = false := by decide)
    (he : starEach (e :: es) X.env = (false, eval e X.env) :: starEach es X.env := by rfl) (hpl : (backTo pos (starEach es X.env)).any (·.1) = false := by rfl) :
    PE X (.Call (.Name x p) (e :: es) [] pos) (tI C sp t) := by
  obtain ⟨f, fd, hm, M, hb, F⟩ := Cl.ex
  refine pe_cg (pe_make M F hr hg hm hb .nil pass0 ha hdb he hpl) fun σ H Q w => ?_
  unfold tMake
  simp only [List.append_nil]
  exact w
/-- a module's constant -/
theorem gc {w : World} (T : Tx w X.K X.mg) (i : Nat) (v : V) (h : gl[i]? = some (some x, some v)) (hg : Gl X x := by rfl) (hd : (x == ("__debug__" : Str)) = false := by decide) : PE X (.Name x p) (tC v) := by
  obtain ⟨u, e, r⟩ := T.gl i x v h
  exact pe_glob hg e r hd
end
section
variable {P : Program} {w : World} {K : PySem.W.Frag} {mg : Str → Option Value} {base : Heap} {x qual : Str} {st : Stmt} {f : Addr} {k : Nat} {ps : List Str} {sp : Sp} {C : Addr}
theorem Tx.cal (T : Tx w K mg) {fd : FuncData} (F : Fun K x qual st f fd) (j : Nat) (hj : G.gl[j]? = some (some x, some (V.ref f)))
    (h : ∀ (kV doc pm : Value) (an : Option Addr) (cdv ct : Value) (us : List Value), us.length = ps.length → bindArgs (PySem.W.fnOf x qual (defArgs st) (defBody st) (defScope st) .none kV doc pm an cdv ct) ⟨us, []⟩ = pure (ps.zip us))
    (ok : FnOk P w K mg base CX0 k f fd ps sp) : Cal P w K mg base x k ps sp := by
  obtain ⟨u, e, r⟩ := T.gl j x _ hj
  cases r
  exact ⟨f, fd, e, F.kp, F.binds h, ok⟩
theorem Tx.calA (T : Tx w K mg) {y : Str} {fd : FuncData} (F : Fun K x qual st f fd) (j : Nat) (hj : G.gl[j]? = some (some y, some (V.ref f)))
    (h : ∀ (kV doc pm : Value) (an : Option Addr) (cdv ct : Value) (us : List Value), us.length = ps.length → bindArgs (PySem.W.fnOf x qual (defArgs st) (defBody st) (defScope st) .none kV doc pm an cdv ct) ⟨us, []⟩ = pure (ps.zip us))
    (ok : FnOk P w K mg base CX0 k f fd ps sp) : Cal P w K mg base y k ps sp := by
  obtain ⟨u, e, r⟩ := T.gl j y _ hj
  cases r
  exact ⟨f, fd, e, F.kp, F.binds h, ok⟩
theorem Tx.calM (T : Tx w K mg) {fd : FuncData} (F : Fun K x qual st f fd) (hm : Meth K C x f)
    (h : ∀ (kV doc pm : Value) (an : Option Addr) (cdv ct : Value) (us : List Value), us.length = ps.length → bindArgs (PySem.W.fnOf x qual (defArgs st) (defBody st) (defScope st) .none kV doc pm an cdv ct) ⟨us, []⟩ = pure (ps.zip us))
    (ok : FnOk P w K mg base CX0 k f fd ps sp) : CalM P w K mg base C x k ps sp := ⟨f, fd, hm, F.binds h, ok⟩
theorem Tx.calI (T : Tx w K mg) {y : Str} {fd : FuncData} (F : Fun K x qual st f fd) (hm : Mk K C f) (j : Nat) (hj : G.gl[j]? = some (some y, some (V.ref C)))
    (h : ∀ (kV doc pm : Value) (an : Option Addr) (cdv ct : Value) (us : List Value), us.length = ps.length → bindArgs (PySem.W.fnOf x qual (defArgs st) (defBody st) (defScope st) .none kV doc pm an cdv ct) ⟨us, []⟩ = pure (ps.zip us))
    (ok : FnOk P w K mg base CX0 k f fd ps sp) : CalI P w K mg base C y k ps sp := by
  obtain ⟨u, e, r⟩ := T.gl j y _ hj
  cases r
  exact ⟨f, fd, e, hm, F.binds h, ok⟩
theorem Cal.mono {j : Nat} (c : Cal P w K mg base x j ps sp) (h : j ≤ k) : Cal P w K mg base x k ps sp := by
  obtain ⟨f, fd, h1, h2, h3, h4⟩ := c.ex
  exact ⟨f, fd, h1, h2, h3, h4.mono h⟩
theorem Cal.imp {sp' : Sp} (c : Cal P w K mg base x k ps sp) (h : ∀ vs H Q E, sp' vs H Q E → sp vs H Q E) : Cal P w K mg base x k ps sp' := by
  obtain ⟨f, fd, h1, h2, h3, h4⟩ := c.ex
  exact ⟨f, fd, h1, h2, h3, h4.imp h⟩
theorem Tx.sqT (T : Tx w K mg) {p : Addr × List Str} (h : p ∈ tuL) (H : Hp) : SqT K H p.1 (p.2.map V.str) := by
  obtain ⟨its, n, sl, l, z, r⟩ := T.tu p h
  exact .inr ⟨_, its, n, l, rfl, rfl, z, r⟩
theorem Tx.tyT (T : Tx w K mg) {p : Addr × List Str} (h : p ∈ tuL) (H : Hp) : tyV K "tuple" (.ref p.1) H := by
  obtain ⟨its, n, sl, l, z, r⟩ := T.tu p h
  exact .inr (.inl ⟨rfl, _, l, rfl, rfl⟩)
end
/-! ### what is kept -/
structure Kp (M : Addr → Prop) (H H' : Hp) : Prop where
  keep : ∀ a o, H a = some o → ¬ M a → H' a = some o
  tup : ∀ a xs, H a = some (.tup xs) → H' a = some (.tup xs)
abbrev M0 : Addr → Prop := fun _ => False
section
variable {M M2 : Addr → Prop} {H H1 H2 : Hp} {p a : Addr} {o u : HO} {xs : List V} {K : PySem.W.Frag}
theorem Kp.rfl : Kp M H H := ⟨fun _ _ h _ => h, fun _ _ h => h⟩
theorem Kp.trans (x : Kp M H H1) (y : Kp M H1 H2) : Kp M H H2 := ⟨fun a o h n => y.keep a o (x.keep a o h n) n, fun a xs h => y.tup a xs (x.tup a xs h)⟩
/-- the later step may change what was not there at the start -/
theorem Kp.then (x : Kp M H H1) (y : Kp M2 H1 H2) (h : ∀ a, M2 a → M a ∨ H a = none) : Kp M H H2 :=
  ⟨fun a o e n => y.keep a o (x.keep a o e n) (fun m => (h a m).elim n (fun z => absurd (z.symm.trans e) (fun q => nomatch q))), fun a xs e => y.tup a xs (x.tup a xs e)⟩
theorem Kp.weak (x : Kp M H H1) (h : ∀ a, M a → M2 a) : Kp M2 H H1 := ⟨fun a o e n => x.keep a o e fun m => n (h a m), x.tup⟩
theorem Kp.new (h : H p = none) : Kp M H (upd H p o) := ⟨fun a u e _ => by rw [upd_ne (ne_of_none e h)]; exact e, fun a xs e => by rw [upd_ne (ne_of_none e h)]; exact e⟩
/-- a private object -/
theorem Kp.priv (x : Kp M H H1) (h : H p = none) : Kp M H (upd H1 p o) := ⟨fun a u e n => by rw [upd_ne (ne_of_none e h)]; exact x.keep a u e n, fun a xs e => by rw [upd_ne (ne_of_none e h)]; exact x.tup a xs e⟩
theorem Kp.free (x : Kp M0 H H1) (h : H1 p = none) : H p = none := by
  cases q : H p with
  | none => rfl
  | some o => rw [x.keep p o q id] at h; cases h
def notTup : HO → Prop
  | .tup _ => False
  | _ => True
theorem Kp.set (x : Kp M H H1) (m : M p) (h : ∀ xs, H p ≠ some (.tup xs)) : Kp M H (upd H1 p o) := ⟨fun a u e n => by rw [upd_ne (fun z => n (by rw [z]; exact m))]; exact x.keep a u e n,
  fun a xs e => by rw [upd_ne (fun z => h xs (by rw [← z]; exact e))]; exact x.tup a xs e⟩
theorem not_tup (h : H p = some o) (n : notTup o) : ∀ xs, H p ≠ some (.tup xs) := fun xs e => by rw [h] at e; cases e; exact n
/-- a new object lies apart from all that was there -/
theorem Kp.sqL (x : Kp M H H1) (h : SqL K H a xs) (n : ¬ M a) : SqL K H1 a xs := by
  rcases h with (h | ⟨o, h⟩) | h
  · exact .inl (.inl (x.keep _ _ h n))
  · exact .inl (.inr ⟨o, x.keep _ _ h n⟩)
  · exact .inr h
theorem same_kp (h : ∀ b o, H b = some o → H1 b = some o) : Kp M H H1 := ⟨fun a o e _ => h a o e, fun a xs e => h a _ e⟩
end
/-! ### built-ins by their names -/
theorem fr_abs {w : World} {K : PySem.W.Frag} {mg : Str → Option Value} (T : Tx w K mg) : mg "abs" = none := T.fr "abs" (by decide +kernel)
theorem fr_all {w : World} {K : PySem.W.Frag} {mg : Str → Option Value} (T : Tx w K mg) : mg "all" = none := T.fr "all" (by decide +kernel)
theorem fr_any {w : World} {K : PySem.W.Frag} {mg : Str → Option Value} (T : Tx w K mg) : mg "any" = none := T.fr "any" (by decide +kernel)
theorem fr_bool {w : World} {K : PySem.W.Frag} {mg : Str → Option Value} (T : Tx w K mg) : mg "bool" = none := T.fr "bool" (by decide +kernel)
theorem fr_dict {w : World} {K : PySem.W.Frag} {mg : Str → Option Value} (T : Tx w K mg) : mg "dict" = none := T.fr "dict" (by decide +kernel)
theorem fr_enumerate {w : World} {K : PySem.W.Frag} {mg : Str → Option Value} (T : Tx w K mg) : mg "enumerate" = none := T.fr "enumerate" (by decide +kernel)
theorem fr_int {w : World} {K : PySem.W.Frag} {mg : Str → Option Value} (T : Tx w K mg) : mg "int" = none := T.fr "int" (by decide +kernel)
theorem fr_isinstance {w : World} {K : PySem.W.Frag} {mg : Str → Option Value} (T : Tx w K mg) : mg "isinstance" = none := T.fr "isinstance" (by decide +kernel)
theorem fr_len {w : World} {K : PySem.W.Frag} {mg : Str → Option Value} (T : Tx w K mg) : mg "len" = none := T.fr "len" (by decide +kernel)
theorem fr_list {w : World} {K : PySem.W.Frag} {mg : Str → Option Value} (T : Tx w K mg) : mg "list" = none := T.fr "list" (by decide +kernel)
theorem fr_max {w : World} {K : PySem.W.Frag} {mg : Str → Option Value} (T : Tx w K mg) : mg "max" = none := T.fr "max" (by decide +kernel)
theorem fr_min {w : World} {K : PySem.W.Frag} {mg : Str → Option Value} (T : Tx w K mg) : mg "min" = none := T.fr "min" (by decide +kernel)
theorem fr_range {w : World} {K : PySem.W.Frag} {mg : Str → Option Value} (T : Tx w K mg) : mg "range" = none := T.fr "range" (by decide +kernel)
theorem fr_set {w : World} {K : PySem.W.Frag} {mg : Str → Option Value} (T : Tx w K mg) : mg "set" = none := T.fr "set" (by decide +kernel)
theorem fr_sorted {w : World} {K : PySem.W.Frag} {mg : Str → Option Value} (T : Tx w K mg) : mg "sorted" = none := T.fr "sorted" (by decide +kernel)
theorem fr_str {w : World} {K : PySem.W.Frag} {mg : Str → Option Value} (T : Tx w K mg) : mg "str" = none := T.fr "str" (by decide +kernel)
theorem fr_sum {w : World} {K : PySem.W.Frag} {mg : Str → Option Value} (T : Tx w K mg) : mg "sum" = none := T.fr "sum" (by decide +kernel)
theorem fr_tuple {w : World} {K : PySem.W.Frag} {mg : Str → Option Value} (T : Tx w K mg) : mg "tuple" = none := T.fr "tuple" (by decide +kernel)
theorem fr_zip {w : World} {K : PySem.W.Frag} {mg : Str → Option Value} (T : Tx w K mg) : mg "zip" = none := T.fr "zip" (by decide +kernel)
theorem mem_cGround : cGround ∈ clsL := by simp [clsL]
theorem mem_cProgram : cProgram ∈ clsL := by simp [clsL]
theorem mem_cKind : cKind ∈ clsL := by simp [clsL]
theorem mem_cGame : cGame ∈ clsL := by simp [clsL]
theorem mem_cStanding : cStanding ∈ clsL := by simp [clsL]
theorem mem_cEffects : cEffects ∈ clsL := by simp [clsL]
theorem atI_of {α : Type} {xs : List α} {z : Int} {j : Nat} {v : α} (e : z = (j : Int)) (h : xs[j]? = some v) : atI xs z = some v := by
  rw [e]
  exact atI_nat h
theorem fnok_none {P : Program} {w : World} {K : PySem.W.Frag} {mg : Str → Option Value} {base : Heap} {k : Nat} {f : Addr} {fd : FuncData} {ps : List Str} {sp : Sp} (no : ∀ vs H Q E, ¬ sp vs H Q E) : FnOk P w K mg base CX0 k f fd ps sp :=
  ⟨fun vs H Q E h => absurd h (no vs H Q E), fun A outer s H args us vs Q E _ _ _ _ h => absurd h (no vs H Q E)⟩
theorem hit {P Q : Prop} {c : Bool} (h : c = true → P) (g : c = false → Q) : if c = true then P else Q := by
  cases c with
  | true => exact h rfl
  | false => exact g rfl
end G
set_option Elab.async false
set_option linter.all false
set_option maxRecDepth 100000
set_option maxHeartbeats 4000000
namespace G
open PySem PySem.Spec PyProof.Rows L2
/-! ### the tongue: words, expressions, statements -/
inductive Nm where
  | x | y | dx | dy | tick | id | owner | buttons | other | side
  | cell (i : Nat) | sh (i : Nat)
  deriving DecidableEq
def Nm.str : Nm → Str
  | .x => "x" | .y => "y" | .dx => "dx" | .dy => "dy" | .tick => "tick" | .id => "id" | .owner => "owner" | .buttons => "buttons" | .other => "other" | .side => "side"
  | .cell 0 => "c0" | .cell 1 => "c1" | .cell 2 => "c2" | .cell _ => "c3"
  | .sh 0 => "s0" | .sh 1 => "s1" | .sh 2 => "s2" | .sh 3 => "s3" | .sh 4 => "s4" | .sh 5 => "s5" | .sh 6 => "s6" | .sh _ => "s7"
def Nm.sets : List Nm := [.dx, .dy, .cell 0, .cell 1, .cell 2, .cell 3, .sh 0, .sh 1, .sh 2, .sh 3, .sh 4, .sh 5, .sh 6, .sh 7]
def Nm.all : List Nm := [.x, .y, .dx, .dy, .tick, .id, .owner, .buttons, .other, .side, .cell 0, .cell 1, .cell 2, .cell 3, .sh 0, .sh 1, .sh 2, .sh 3, .sh 4, .sh 5, .sh 6, .sh 7]
inductive W1 where
  | not | minus | draw | press | kind | left | top
  deriving DecidableEq
def W1.str : W1 → Str
  | .not => "not" | .minus => "minus" | .draw => "draw" | .press => "press" | .kind => "kind" | .left => "left" | .top => "top"
def W1.all : List W1 := [.not, .minus, .draw, .press, .kind, .left, .top]
inductive W2 where
  | add | sub | mul | div | rest | less | same | and | or | cell
  deriving DecidableEq
def W2.str : W2 → Str
  | .add => "add" | .sub => "sub" | .mul => "mul" | .div => "div" | .rest => "rest" | .less => "less" | .same => "same" | .and => "and" | .or => "or" | .cell => "cell"
def W2.all : List W2 := [.add, .sub, .mul, .div, .rest, .less, .same, .and, .or, .cell]
inductive Ex where
  | num (n : Int)
  | nam (w : Nm)
  | one (w : W1) (e : Ex)
  | two (w : W2) (e f : Ex)
def Sml (n : Int) : Prop := -2147483648 ≤ n ∧ n ≤ 2147483647
def Ex.sz : Ex → Nat
  | .num _ => 1
  | .nam _ => 1
  | .one _ e => 1 + e.sz
  | .two _ e f => 1 + (e.sz + f.sz)
def Ex.dp : Ex → Nat
  | .num _ => 1
  | .nam _ => 1
  | .one _ e => 1 + e.dp
  | .two _ e f => 1 + max e.dp f.dp
def Ex.ok : Ex → Prop
  | .num n => Sml n
  | .nam w => w ∈ Nm.all
  | .one _ e => e.ok
  | .two _ e f => e.ok ∧ f.ok
theorem Ex.sz_pos : ∀ e : Ex, 1 ≤ e.sz
  | .num _ => Nat.le_refl _
  | .nam _ => Nat.le_refl _
  | .one _ e => by unfold Ex.sz; omega
  | .two _ e f => by unfold Ex.sz; omega
theorem Ex.dp_pos : ∀ e : Ex, 1 ≤ e.dp
  | .num _ => Nat.le_refl _
  | .nam _ => Nat.le_refl _
  | .one _ e => by unfold Ex.dp; omega
  | .two _ e f => by unfold Ex.dp; omega
/-- an expression stands there, as tuples -/
def ExAt (H : Hp) : Ex → V → Prop
  | .num n, v => ∃ a, v = .ref a ∧ H a = some (.tup [.str "number", .int n])
  | .nam w, v => ∃ a, v = .ref a ∧ H a = some (.tup [.str "name", .str w.str])
  | .one w e, v => ∃ a x, v = .ref a ∧ H a = some (.tup [.str w.str, x]) ∧ ExAt H e x
  | .two w e f, v => ∃ a x y, v = .ref a ∧ H a = some (.tup [.str w.str, x, y]) ∧ ExAt H e x ∧ ExAt H f y
theorem ExAt.kp {M : Addr → Prop} {H H' : Hp} (k : Kp M H H') : ∀ {e : Ex} {v : V}, ExAt H e v → ExAt H' e v
  | .num n, v, ⟨a, h1, h2⟩ => ⟨a, h1, k.tup _ _ h2⟩
  | .nam w, v, ⟨a, h1, h2⟩ => ⟨a, h1, k.tup _ _ h2⟩
  | .one w e, v, ⟨a, x, h1, h2, h3⟩ => ⟨a, x, h1, k.tup _ _ h2, ExAt.kp k h3⟩
  | .two w e f, v, ⟨a, x, y, h1, h2, h3, h4⟩ => ⟨a, x, y, h1, k.tup _ _ h2, ExAt.kp k h3, ExAt.kp k h4⟩
theorem ExAt.ref {H : Hp} : ∀ {e : Ex} {v : V}, ExAt H e v → ∃ a, v = .ref a
  | .num _, v, ⟨a, h1, _⟩ => ⟨a, h1⟩
  | .nam _, v, ⟨a, h1, _⟩ => ⟨a, h1⟩
  | .one _ _, v, ⟨a, _, h1, _⟩ => ⟨a, h1⟩
  | .two _ _ _, v, ⟨a, _, _, h1, _⟩ => ⟨a, h1⟩
inductive Sm where
  | set (w : Nm) (e : Ex)
  | make (k : Int) (e f g : Ex)
  | push (e f g : Ex)
  | gone
  | say (e : Ex)
  | ite (e : Ex) (a b : List Sm)
  | whl (e : Ex) (b : List Sm)
mutual
def Sm.cnt : Sm → Nat
  | .ite _ a b => 1 + (cnts a + cnts b)
  | .whl _ b => 1 + cnts b
  | _ => 1
def cnts : List Sm → Nat
  | [] => 0
  | s :: r => s.cnt + cnts r
end
mutual
def Sm.prt : Sm → Nat
  | .set _ e => e.sz
  | .make _ e f g => e.sz + f.sz + g.sz
  | .push e f g => e.sz + f.sz + g.sz
  | .gone => 0
  | .say e => e.sz
  | .ite e a b => e.sz + (prts a + prts b)
  | .whl e b => e.sz + prts b
def prts : List Sm → Nat
  | [] => 0
  | s :: r => s.prt + prts r
end
mutual
/-- how deep the bodies within lie -/
def Sm.bd : Sm → Nat
  | .ite _ a b => max (bds a) (bds b)
  | .whl _ b => bds b
  | _ => 0
def bds : List Sm → Nat
  | [] => 1
  | s :: r => max (1 + s.bd) (bds r)
end
def Ex.fit (e : Ex) : Prop := e.ok ∧ e.sz ≤ 40 ∧ e.dp ≤ 10
mutual
def Sm.ok : Sm → Prop
  | .set w e => w ∈ Nm.sets ∧ e.fit
  | .make k e f g => (0 ≤ k ∧ k ≤ 7) ∧ e.fit ∧ f.fit ∧ g.fit
  | .push e f g => e.fit ∧ f.fit ∧ g.fit
  | .gone => True
  | .say e => e.fit
  | .ite e a b => e.fit ∧ oks a ∧ oks b
  | .whl e b => e.fit ∧ oks b
def oks : List Sm → Prop
  | [] => True
  | s :: r => s.ok ∧ oks r
end
mutual
def SmAt (H : Hp) : Sm → V → Prop
  | .set w e, v => ∃ a x, v = .ref a ∧ H a = some (.tup [.str "set", .str w.str, x]) ∧ ExAt H e x
  | .make k e f g, v => ∃ a x y z, v = .ref a ∧ H a = some (.tup [.str "make", .int k, x, y, z]) ∧ ExAt H e x ∧ ExAt H f y ∧ ExAt H g z
  | .push e f g, v => ∃ a x y z, v = .ref a ∧ H a = some (.tup [.str "push", x, y, z]) ∧ ExAt H e x ∧ ExAt H f y ∧ ExAt H g z
  | .gone, v => ∃ a, v = .ref a ∧ H a = some (.tup [.str "gone"])
  | .say e, v => ∃ a x, v = .ref a ∧ H a = some (.tup [.str "say", x]) ∧ ExAt H e x
  | .ite e l r, v => ∃ a x b1 b2 xs ys, v = .ref a ∧ H a = some (.tup [.str "if", x, .ref b1, .ref b2]) ∧ ExAt H e x ∧ H b1 = some (.tup xs) ∧ BdAt H l xs ∧ H b2 = some (.tup ys) ∧ BdAt H r ys
  | .whl e l, v => ∃ a x b1 xs, v = .ref a ∧ H a = some (.tup [.str "while", x, .ref b1]) ∧ ExAt H e x ∧ H b1 = some (.tup xs) ∧ BdAt H l xs
def BdAt (H : Hp) : List Sm → List V → Prop
  | [], vs => vs = []
  | s :: r, vs => ∃ v us, vs = v :: us ∧ SmAt H s v ∧ BdAt H r us
end
mutual
theorem SmAt.kp {M : Addr → Prop} {H H' : Hp} (k : Kp M H H') : ∀ (s : Sm) (v : V), SmAt H s v → SmAt H' s v
  | .set w e, v, h => by unfold SmAt at h ⊢; obtain ⟨a, x, h1, h2, h3⟩ := h; exact ⟨a, x, h1, k.tup _ _ h2, h3.kp k⟩
  | .make n e f g, v, h => by unfold SmAt at h ⊢; obtain ⟨a, x, y, z, h1, h2, h3, h4, h5⟩ := h; exact ⟨a, x, y, z, h1, k.tup _ _ h2, h3.kp k, h4.kp k, h5.kp k⟩
  | .push e f g, v, h => by unfold SmAt at h ⊢; obtain ⟨a, x, y, z, h1, h2, h3, h4, h5⟩ := h; exact ⟨a, x, y, z, h1, k.tup _ _ h2, h3.kp k, h4.kp k, h5.kp k⟩
  | .gone, v, h => by unfold SmAt at h ⊢; obtain ⟨a, h1, h2⟩ := h; exact ⟨a, h1, k.tup _ _ h2⟩
  | .say e, v, h => by unfold SmAt at h ⊢; obtain ⟨a, x, h1, h2, h3⟩ := h; exact ⟨a, x, h1, k.tup _ _ h2, h3.kp k⟩
  | .ite e l r, v, h => by unfold SmAt at h ⊢; obtain ⟨a, x, b1, b2, xs, ys, h1, h2, h3, h4, h5, h6, h7⟩ := h; exact ⟨a, x, b1, b2, xs, ys, h1, k.tup _ _ h2, h3.kp k, k.tup _ _ h4, BdAt.kp k l xs h5, k.tup _ _ h6, BdAt.kp k r ys h7⟩
  | .whl e l, v, h => by unfold SmAt at h ⊢; obtain ⟨a, x, b1, xs, h1, h2, h3, h4, h5⟩ := h; exact ⟨a, x, b1, xs, h1, k.tup _ _ h2, h3.kp k, k.tup _ _ h4, BdAt.kp k l xs h5⟩
theorem BdAt.kp {M : Addr → Prop} {H H' : Hp} (k : Kp M H H') : ∀ (l : List Sm) (vs : List V), BdAt H l vs → BdAt H' l vs
  | [], vs, h => by unfold BdAt at h ⊢; exact h
  | s :: r, vs, h => by unfold BdAt at h ⊢; obtain ⟨v, us, h1, h2, h3⟩ := h; exact ⟨v, us, h1, SmAt.kp k s v h2, BdAt.kp k r us h3⟩
end
theorem BdAt.len {H : Hp} : ∀ {l : List Sm} {vs : List V}, BdAt H l vs → vs.length = l.length
  | [], vs, h => by unfold BdAt at h; rw [h]; rfl
  | s :: r, vs, h => by unfold BdAt at h; obtain ⟨v, us, h1, _, h3⟩ := h; rw [h1, List.length_cons, List.length_cons, BdAt.len h3]
theorem BdAt.get {H : Hp} : ∀ {l : List Sm} {vs : List V} {i : Nat} {v : V}, BdAt H l vs → vs[i]? = some v → ∃ s, l[i]? = some s ∧ SmAt H s v
  | [], vs, i, v, h, e => by unfold BdAt at h; rw [h] at e; simp at e
  | s :: r, vs, i, v, h, e => by
    unfold BdAt at h
    obtain ⟨u, us, h1, h2, h3⟩ := h
    subst h1
    cases i with
    | zero => exact ⟨s, rfl, by rw [show u = v by simpa using e] at h2; exact h2⟩
    | succ i => exact BdAt.get (i := i) h3 (by simpa using e)
theorem BdAt.snoc {H : Hp} : ∀ {l : List Sm} {vs : List V} {s : Sm} {v : V}, BdAt H l vs → SmAt H s v → BdAt H (l ++ [s]) (vs ++ [v])
  | [], vs, s, v, h, e => by unfold BdAt at h; subst h; exact ⟨v, [], rfl, e, rfl⟩
  | t :: r, vs, s, v, h, e => by
    unfold BdAt at h
    obtain ⟨u, us, h1, h2, h3⟩ := h
    subst h1
    exact ⟨u, us ++ [v], rfl, h2, BdAt.snoc h3 e⟩
theorem cnts_snoc : ∀ (l : List Sm) (s : Sm), cnts (l ++ [s]) = cnts l + s.cnt
  | [], s => by simp only [List.nil_append, cnts]; omega
  | t :: r, s => by simp only [List.cons_append, cnts, cnts_snoc r s]; omega
theorem prts_snoc : ∀ (l : List Sm) (s : Sm), prts (l ++ [s]) = prts l + s.prt
  | [], s => by simp only [List.nil_append, prts]; omega
  | t :: r, s => by simp only [List.cons_append, prts, prts_snoc r s]; omega
theorem bds_snoc : ∀ (l : List Sm) (s : Sm), bds (l ++ [s]) = max (bds l) (1 + s.bd)
  | [], s => by simp only [List.nil_append, bds]; omega
  | t :: r, s => by simp only [List.cons_append, bds, bds_snoc r s]; omega
theorem bds_pos : ∀ l : List Sm, 1 ≤ bds l
  | [] => Nat.le_refl _
  | s :: r => by simp only [bds]; omega
theorem oks_snoc : ∀ (l : List Sm) (s : Sm), oks l → s.ok → oks (l ++ [s])
  | [], s, _, h => by simp only [List.nil_append, oks]; exact ⟨h, trivial⟩
  | t :: r, s, h, e => by
    simp only [List.cons_append, oks] at h ⊢
    exact ⟨h.1, oks_snoc r s h.2 e⟩
theorem Sm.cnt_pos (s : Sm) : 1 ≤ s.cnt := by cases s <;> simp only [Sm.cnt] <;> omega
theorem len_cnts : ∀ l : List Sm, l.length ≤ cnts l
  | [] => Nat.le_refl _
  | s :: r => by
    have h1 := len_cnts r
    have h2 := s.cnt_pos
    simp only [cnts, List.length_cons]
    omega
/-! ### two lists, item by item -/
def All2 {α β : Type} (R : α → β → Prop) : List α → List β → Prop
  | [], [] => True
  | a :: l, b :: r => R a b ∧ All2 R l r
  | _, _ => False
section
variable {α β : Type} {R S : α → β → Prop}
theorem All2.len : ∀ {l : List α} {r : List β}, All2 R l r → l.length = r.length
  | [], [], _ => rfl
  | _ :: l, _ :: r, h => by rw [List.length_cons, List.length_cons, All2.len h.2]
theorem All2.mono (f : ∀ a b, R a b → S a b) : ∀ {l : List α} {r : List β}, All2 R l r → All2 S l r
  | [], [], _ => trivial
  | _ :: l, _ :: r, h => ⟨f _ _ h.1, All2.mono f h.2⟩
theorem All2.get : ∀ {l : List α} {r : List β} {i : Nat} {b : β}, All2 R l r → r[i]? = some b → ∃ a, l[i]? = some a ∧ R a b
  | [], [], _, _, _, e => by simp at e
  | a :: l, _ :: r, 0, b, h, e => ⟨a, rfl, by rw [← show _ = b by simpa using e]; exact h.1⟩
  | _ :: l, _ :: r, i + 1, b, h, e => All2.get (i := i) h.2 (by simpa using e)
theorem All2.getL : ∀ {l : List α} {r : List β} {i : Nat} {a : α}, All2 R l r → l[i]? = some a → ∃ b, r[i]? = some b ∧ R a b
  | [], [], _, _, _, e => by simp at e
  | _ :: l, b :: r, 0, a, h, e => ⟨b, rfl, by rw [← show _ = a by simpa using e]; exact h.1⟩
  | _ :: l, _ :: r, i + 1, a, h, e => All2.getL (i := i) h.2 (by simpa using e)
theorem All2.snoc {a : α} {b : β} : ∀ {l : List α} {r : List β}, All2 R l r → R a b → All2 R (l ++ [a]) (r ++ [b])
  | [], [], _, e => ⟨e, trivial⟩
  | _ :: l, _ :: r, h, e => ⟨h.1, All2.snoc h.2 e⟩
theorem All2.set {a : α} {b : β} (e : R a b) : ∀ {l : List α} {r : List β} (i : Nat), All2 R l r → All2 R (l.set i a) (r.set i b)
  | [], [], _, _ => trivial
  | _ :: l, _ :: r, 0, h => ⟨e, h.2⟩
  | _ :: l, _ :: r, i + 1, h => ⟨h.1, All2.set e i h.2⟩
theorem All2.setR {b : β} : ∀ {l : List α} {r : List β} (i : Nat), All2 R l r → (∀ a, l[i]? = some a → R a b) → All2 R l (r.set i b)
  | [], [], _, _, _ => trivial
  | _ :: l, _ :: r, 0, h, e => ⟨e _ rfl, h.2⟩
  | _ :: l, _ :: r, i + 1, h, e => ⟨h.1, All2.setR i h.2 fun a q => e a (by simpa using q)⟩
end
end G
set_option Elab.async false
set_option linter.all false
set_option maxRecDepth 100000
set_option maxHeartbeats 4000000
namespace G
open PySem PySem.Spec PyProof.Rows L2
/-! ### the hand that draws -/
def hv (sc : Addr) (i big st cnt : Int) : List V := [.ref sc, .int i, .int big, .int st, .int cnt]
structure Hand (H : Hp) (h sc : Addr) : Prop where
  ex : ∃ (ns : List Int) (i big st cnt : Int), H h = some (.lst (hv sc i big st cnt)) ∧ H sc = some (.lst (ns.map V.int)) ∧ 0 ≤ i ∧ 0 ≤ big
  ne : sc ≠ h
def spTake : Sp := fun vs H Q _ => ∃ (h sc : Addr) (many : Int), vs = [.ref h, .int many] ∧ Hand H h sc ∧ 1 ≤ many ∧ many < 1073741824 ∧
  ∀ (r : Int) (H' : Hp), Kp (fun a => a = h) H H' → Hand H' h sc → 0 ≤ r → r < many → Q (.int r) H'
section
variable {P : Program} {w : World} {K : PySem.W.Frag} {mg : Str → Option Value} {base : Heap}
theorem scl_take : FnScope ["_law_hand_here", "_law_many", "_law_cell", "_law_found", "_law_number"] ["_law_hand_here", "_law_many"] (defScope sl_take) := ⟨rfl, rfl, rfl, by decide +kernel, rfl, by decide +kernel, by decide +kernel⟩
/-- the last rows of take: the seed walks on -/
theorem ok_l_take (T : Tx w K mg) : Cal P w K mg base "_law_take" 1 ["_law_hand_here", "_law_many"] spTake := by
  obtain ⟨fd, F⟩ : ∃ fd, Fun K "_law_take" "_law_take" sl_take 715 fd := T.fn 61 _ rfl
  refine T.cal F 120 rfl (fun _ _ _ _ _ _ us hl => match us, hl with | [_, _], _ => rfl) ?_
  refine F.ok scl_take (fun vs H Q E h => ?_) (fun cdv A outer s H vs Q E hr h => ?_)
  · obtain ⟨h, sc, many, rfl, _⟩ := h
    rfl
  obtain ⟨h, sc, many, rfl, hH, h1, h2, k⟩ := h
  obtain ⟨⟨ns, i, big, st, cnt, e1, e2, h3, h4⟩, ne⟩ := hH
  refine ⟨_, (pss_cons (ps_asg (pe_op op_add (pe_ix ix_list (pv 0) pe_int (fun _ _ => rfl)) pe_int) (pg_sub (pv 0) pe_int set_list))
    (C8.pss_cut (ps_if (PW.pt (pw_and (pt_cmpR op_eq (pe_ix ix_list (pv 0) pe_int (fun _ _ => rfl)) pe_int (nomark _)) (pw_and1 (pt_cmpR op_lt (pe_ix ix_list (pv 0) pe_int (fun _ _ => rfl)) (pe_callB call_len_seq rfl (fr_len T) (by decide +kernel) (pa_cons (pe_ix ix_list (pv 0) pe_int (fun _ _ => rfl)) pa_nil)) (nomark _))))) (pss_cons (ps_set (i := 2) scl_take.nd rfl (Or.inl rfl) (pe_callTy call_int1 rfl (fr_int T) (by decide +kernel) (pa_cons (pe_ix ix_list (pe_ix ix_list (pv 0) pe_int (fun _ _ => rfl)) (pe_ix ix_list (pv 0) pe_int (fun _ _ => rfl)) (fun _ _ => rfl)) pa_nil)))
    (pss_cons (ps_asg (pe_op op_add (pe_ix ix_list (pv 0) pe_int (fun _ _ => rfl)) pe_int) (pg_sub (pv 0) pe_int set_list))
    (pss_one (ps_if (pt_cmpR op_ge (pv 2) (pe_op op_pow pe_int pe_int) (nomark _)) (pss_one (ps_asg (pv 2) (pg_sub (pv 0) pe_int set_list))) (pss_one (ps_asg (pe_op op_mod (pe_callTy call_int1 rfl (fr_int T) (by decide +kernel) (pa_cons (pe_op op_add (pe_op op_add (pe_op op_mul (pe_ix ix_list (pv 0) pe_int (fun _ _ => rfl)) pe_int) (pe_op op_mod (pe_callTy call_int1 rfl (fr_int T) (by decide +kernel) (pa_cons (pv 2) pa_nil)) pe_int)) pe_int) pa_nil)) pe_int) (pg_sub (pv 0) pe_int set_list))))))) pss_nil)
    (pss_cons (ps_if (pt_cmpR op_gt (pe_ix ix_list (pv 0) pe_int (fun _ _ => rfl)) pe_int (nomark _)) (pss_cons (ps_set (i := 3) scl_take.nd rfl (Or.inl rfl) (pe_op op_mod (pe_callTy call_int1 rfl (fr_int T) (by decide +kernel) (pa_cons (pe_ix ix_list (pv 0) pe_int (fun _ _ => rfl)) pa_nil)) (pv 1)))
    (pss_cons (ps_asg (pe_op op_fdiv (pe_callTy call_int1 rfl (fr_int T) (by decide +kernel) (pa_cons (pe_ix ix_list (pv 0) pe_int (fun _ _ => rfl)) pa_nil)) (pv 1)) (pg_sub (pv 0) pe_int set_list))
    (pss_one (ps_ret (pv 3))))) pss_nil)
    (pss_cons (ps_asg (pe_op op_mod (pe_callTy call_int1 rfl (fr_int T) (by decide +kernel) (pa_cons (pe_op op_add (pe_op op_mul (pe_ix ix_list (pv 0) pe_int (fun _ _ => rfl)) pe_int) (pe_op op_mul pe_int (pe_ix ix_list (pv 0) pe_int (fun _ _ => rfl)))) pa_nil)) pe_int) (pg_sub (pv 0) pe_int set_list))
    (pss_cons (ps_set (i := 4) scl_take.nd rfl (Or.inl rfl) (pe_op op_mod (pe_callTy call_int1 rfl (fr_int T) (by decide +kernel) (pa_cons (pe_op op_mul (pe_ix ix_list (pv 0) pe_int (fun _ _ => rfl)) (pe_op op_add (pe_op op_fdiv (pe_ix ix_list (pv 0) pe_int (fun _ _ => rfl)) pe_int) pe_int)) pa_nil)) pe_int))
    (pss_cons (ps_set (i := 4) scl_take.nd rfl (Or.inl rfl) (pe_op op_mod (pe_callTy call_int1 rfl (fr_int T) (by decide +kernel) (pa_cons (pe_op op_mul (pv 4) (pe_op op_add (pe_op op_fdiv (pv 4) pe_int) pe_int)) pa_nil)) pe_int))
    (pss_one (ps_ret (pe_op op_mod (pe_callTy call_int1 rfl (fr_int T) (by decide +kernel) (pa_cons (pe_op op_fdiv (pv 4) pe_int) pa_nil)) (pv 1)))))))))), ?_⟩
  have K1 : ∀ H1 i' big' st' cnt', Kp (fun a => a = h) H H1 → H1 h = some (.lst (hv sc i' big' st' cnt')) → 0 ≤ i' → 0 ≤ big' → Hand H1 h sc := fun H1 i' big' st' cnt' kp e0 a b => ⟨⟨ns, i', big', st', cnt', e0, kp.keep _ _ e2 (fun z => ne z), a, b⟩, ne⟩
  have K2 : ∀ H1 xs o, Kp (fun a => a = h) H H1 → H1 h = some (.lst xs) → Kp (fun a => a = h) H (upd H1 h o) := fun H1 xs o kp e0 => kp.set rfl (not_tup e1 trivial)
  refine ⟨_, rfl, h, _, 4, _, rfl, rfl, SqL.of e1, rfl, _, _, rfl, rfl, _, rfl, h, _, 4, 4, rfl, rfl, e1, rfl, ?_⟩
  have kA := K2 H _ (.lst (hv sc i big st (cnt + 1))) Kp.rfl e1
  have eA : (upd H h (.lst (hv sc i big st (cnt + 1)))) h = some (.lst (hv sc i big st (cnt + 1))) := upd_same
  show C8.tCut _ _ _ _ (upd H h (.lst (hv sc i big st (cnt + 1))))
  generalize upd H h (.lst (hv sc i big st (cnt + 1))) = H1 at kA eA
  have eS : H1 sc = some (.lst (ns.map V.int)) := kA.keep _ _ e2 ne
  refine ⟨fun σ' H' => ∃ c2 i' big' st' cnt', σ' = [some (.ref h), some (.int many), c2, none, none] ∧ Kp (fun a => a = h) H H' ∧ H' h = some (.lst (hv sc i' big' st' cnt')) ∧ 0 ≤ i' ∧ 0 ≤ big', ?_, ?_⟩
  · refine ⟨_, rfl, h, _, 2, _, rfl, rfl, SqL.of eA, rfl, rfl, _, rfl, ?_⟩
    refine ite2 (fun c => ?_) (fun c => ⟨none, i, big, st, cnt + 1, rfl, kA, eA, h3, h4⟩)
    refine ⟨_, rfl, h, _, 1, _, rfl, rfl, SqL.of eA, rfl, _, rfl, h, _, 0, _, rfl, rfl, SqL.of eA, rfl, sc, _, rfl, .inl (SqL.of eS), _, _, rfl, rfl, _, rfl, ?_⟩
    refine ite2 (fun c2 => ?_) (fun c2 => ⟨none, i, big, st, cnt + 1, rfl, kA, eA, h3, h4⟩)
    have c3 : i < ((ns.map V.int).length : Int) := of_decide_eq_true c2
    rw [List.length_map] at c3
    have hi : i.toNat < ns.length := by omega
    have ea : atI (ns.map V.int) i = some (.int ns[i.toNat]) := at_of (j := i.toNat) (by omega) (by rw [List.getElem?_map, List.getElem?_eq_getElem hi]; rfl)
    refine ⟨_, rfl, h, _, 0, _, rfl, rfl, SqL.of eA, rfl, _, rfl, h, _, 1, _, rfl, rfl, SqL.of eA, rfl, sc, _, i, _, rfl, rfl, SqL.of eS, ea, .inl ⟨_, rfl, ?_⟩⟩
    generalize ns[i.toNat] = z
    refine ⟨_, rfl, h, _, 1, _, rfl, rfl, SqL.of eA, rfl, _, _, rfl, rfl, _, rfl, h, _, 1, 1, rfl, rfl, eA, rfl, ?_⟩
    refine ⟨_, rfl, _, _, rfl, rfl, ⟨by decide, by decide, by decide⟩, _, _, rfl, rfl, _, rfl, ?_⟩
    refine ite2 (fun c4 => ?_) (fun c4 => ?_)
    · have c5 : (10 : Int) ^ (18 : Int).toNat ≤ z := of_decide_eq_true c4
      have c6 : (10 : Int) ^ (18 : Int).toNat = 1000000000000000000 := by decide
      refine ⟨_, rfl, _, rfl, h, _, 2, 2, rfl, rfl, upd_same, rfl, _, i + 1, z, st, cnt + 1, rfl, K2 _ _ _ (K2 H1 _ _ kA eA) upd_same, upd_same, by omega, by omega⟩
    · refine ⟨_, rfl, h, _, 3, _, rfl, rfl, SqL.of upd_same, rfl, _, _, rfl, rfl, .inr ⟨by decide, by decide⟩, _, rfl, .inl ⟨_, rfl, _, _, rfl, rfl, (by show (0 : Int) < 2147483647; decide), _, _, rfl, rfl, _, _, rfl, rfl, .inl ⟨_, rfl, _, _, rfl, rfl, (by show (0 : Int) < 2147483647; decide), _, rfl, h, _, 3, 3, rfl, rfl, upd_same, rfl, ?_⟩⟩⟩
      exact ⟨_, i + 1, big, _, cnt + 1, rfl, K2 _ _ _ (K2 H1 _ _ kA eA) upd_same, upd_same, by omega, h4⟩
  · rintro σ' H' ⟨c2, i', big', st', cnt', rfl, kC, eC, a1, a2⟩
    refine ⟨_, rfl, h, _, 2, _, rfl, rfl, SqL.of eC, rfl, _, _, rfl, rfl, _, rfl, ?_⟩
    refine ite2 (fun c => ?_) (fun c => ?_)
    · refine ⟨_, rfl, h, _, 2, _, rfl, rfl, SqL.of eC, rfl, .inl ⟨_, rfl, _, rfl, _, _, rfl, rfl, (by show (0 : Int) < many; omega), ?_⟩⟩
      refine ⟨_, rfl, h, _, 2, _, rfl, rfl, SqL.of eC, rfl, .inl ⟨_, rfl, _, rfl, _, _, rfl, rfl, ⟨by omega, h2⟩, _, rfl, h, _, 2, 2, rfl, rfl, eC, rfl, _, rfl, ?_⟩⟩
      exact k _ _ (K2 H' _ _ kC eC) (K1 _ i' _ st' cnt' (K2 H' _ _ kC eC) upd_same a1 (Int.ediv_nonneg a2 (by omega))) (Int.emod_nonneg _ (by omega)) (Int.emod_lt_of_pos _ (by omega))
    · refine ⟨_, rfl, h, _, 3, _, rfl, rfl, SqL.of eC, rfl, _, _, rfl, rfl, .inr ⟨by decide, by decide⟩, _, rfl, h, _, 4, _, rfl, rfl, SqL.of eC, rfl, _, _, rfl, rfl, .inl ⟨by decide, by decide⟩, _, _, rfl, rfl, .inl ⟨_, rfl, _, _, rfl, rfl, (by show (0 : Int) < 2147483647; decide), _, rfl, h, _, 3, 3, rfl, rfl, eC, rfl, ?_⟩⟩
      have z0 : 0 ≤ (st' * 69621 + 7919 * cnt') % 2147483647 := Int.emod_nonneg _ (by decide)
      have z1 : (st' * 69621 + 7919 * cnt') % 2147483647 < 2147483647 := Int.emod_lt_of_pos _ (by decide)
      have kD := K2 H' _ (.lst (hv sc i' big' ((st' * 69621 + 7919 * cnt') % 2147483647) cnt')) kC eC
      have eD : (upd H' h (.lst (hv sc i' big' ((st' * 69621 + 7919 * cnt') % 2147483647) cnt'))) h = some (.lst (hv sc i' big' ((st' * 69621 + 7919 * cnt') % 2147483647) cnt')) := upd_same
      show tSeq _ _ _ _ (upd H' h (.lst (hv sc i' big' ((st' * 69621 + 7919 * cnt') % 2147483647) cnt')))
      generalize upd H' h (.lst (hv sc i' big' ((st' * 69621 + 7919 * cnt') % 2147483647) cnt')) = H3 at kD eD
      generalize (st' * 69621 + 7919 * cnt') % 2147483647 = y at eD z0 z1
      have hD := K1 H3 _ _ _ _ kD eD a1 a2
      refine ⟨_, rfl, h, _, 3, _, rfl, rfl, SqL.of eD, rfl, _, rfl, h, _, 3, _, rfl, rfl, SqL.of eD, rfl, _, _, rfl, rfl, ⟨by decide, by decide⟩, _, _, rfl, rfl, _, _, rfl, rfl, .inl ⟨by omega, by omega⟩, .inl ⟨_, rfl, _, _, rfl, rfl, (by show (0 : Int) < 2147483647; decide), ?_⟩⟩
      have w0 : 0 ≤ (y * (y / 1009 + 69621)) % 2147483647 := Int.emod_nonneg _ (by decide)
      have w1 : (y * (y / 1009 + 69621)) % 2147483647 < 2147483647 := Int.emod_lt_of_pos _ (by decide)
      generalize (y * (y / 1009 + 69621)) % 2147483647 = v at w0 w1
      refine ⟨_, rfl, _, rfl, _, _, rfl, rfl, ⟨by decide, by decide⟩, _, _, rfl, rfl, _, _, rfl, rfl, .inl ⟨by omega, by omega⟩, .inl ⟨_, rfl, _, _, rfl, rfl, (by show (0 : Int) < 2147483399; decide), ?_⟩⟩
      refine ⟨_, rfl, _, _, rfl, rfl, ⟨by decide, by decide⟩, .inl ⟨_, rfl, _, rfl, _, _, rfl, rfl, (by show (0 : Int) < many; omega), ?_⟩⟩
      exact k _ _ kD hD (Int.emod_nonneg _ (by omega)) (Int.emod_lt_of_pos _ (by omega))
end
abbrev Mh (h : Addr) : Addr → Prop := fun a => a = h
/-- what comes of a drawing def: the hand is a hand again, all else stands -/
def Gn (h sc : Addr) (H : Hp) (Q : VK) (R : V → Hp → Prop) : Prop := ∀ v H', Kp (Mh h) H H' → Hand H' h sc → R v H' → Q v H'
theorem Hand.ls {H : Hp} {h sc : Addr} (x : Hand H h sc) : ∃ xs, H h = some (.lst xs) := let ⟨⟨_, _, _, _, _, e, _⟩, _⟩ := x; ⟨_, e⟩
theorem Hand.keep {M : Addr → Prop} {H H' : Hp} {h sc : Addr} (x : Hand H h sc) (k : Kp M H H') (a : ¬ M h) (b : ¬ M sc) : Hand H' h sc := by
  obtain ⟨⟨ns, i, big, st, cnt, e1, e2, h1, h2⟩, ne⟩ := x
  exact ⟨⟨ns, i, big, st, cnt, k.keep _ _ e1 a, k.keep _ _ e2 b, h1, h2⟩, ne⟩
theorem Hand.new {H : Hp} {h sc p : Addr} {o : HO} (x : Hand H h sc) (n : H p = none) : Hand (upd H p o) h sc := x.keep (M := M0) (Kp.new n) id id
theorem Hand.neH {H : Hp} {h sc p : Addr} (x : Hand H h sc) (n : H p = none) : p ≠ h ∧ p ≠ sc := by
  obtain ⟨⟨ns, i, big, st, cnt, e1, e2, _⟩, _⟩ := x
  exact ⟨(ne_of_none e1 n).symm, (ne_of_none e2 n).symm⟩
theorem Kp.new1 {H H1 : Hp} {h p : Addr} {o : HO} (x : Kp (Mh h) H H1) (n : H1 p = none) : Kp (Mh h) H (upd H1 p o) := x.trans (Kp.new n)
def spPick (K : PySem.W.Frag) : Sp := fun vs H Q _ => ∃ (h sc l : Addr) (xs : List V), vs = [.ref h, .ref l] ∧ Hand H h sc ∧ SqL K H l xs ∧ l ≠ h ∧ 1 ≤ xs.length ∧ xs.length < 1073741824 ∧
  Gn h sc H Q fun v _ => v ∈ xs
def spWide : Sp := fun vs H Q _ => ∃ (h sc : Addr), vs = [.ref h] ∧ Hand H h sc ∧ Gn h sc H Q fun v _ => ∃ r, v = .int r ∧ Sml r
def spSeed : Sp := fun vs H Q _ => ∃ (h sc : Addr), vs = [.ref h] ∧ Hand H h sc ∧ Gn h sc H Q fun v _ => ∃ r, v = .int r ∧ 1 ≤ r ∧ r ≤ 2147483646
/-- a sign of the ground -/
def Sg (c : Nat) : Prop := c = 35 ∨ c = 46 ∨ (48 ≤ c ∧ c ≤ 57)
def sg1 (c : Nat) : V := .str ⟨#[c]⟩
def spGsign : Sp := fun vs H Q _ => ∃ (h sc : Addr) (n : Int), vs = [.ref h, .int n] ∧ Hand H h sc ∧ Gn h sc H Q fun v _ => ∃ c, v = sg1 c ∧ Sg c
section
variable {P : Program} {w : World} {K : PySem.W.Frag} {mg : Str → Option Value} {base : Heap}
theorem scl_pick : FnScope ["_law_hand_here", "_law_things"] ["_law_hand_here", "_law_things"] (defScope sl_pick) := ⟨rfl, rfl, rfl, by decide +kernel, rfl, by decide +kernel, by decide +kernel⟩
theorem ok_l_pick (T : Tx w K mg) : Cal P w K mg base "_law_pick" 2 ["_law_hand_here", "_law_things"] (spPick K) := by
  obtain ⟨fd, F⟩ : ∃ fd, Fun K "_law_pick" "_law_pick" sl_pick 722 fd := T.fn 62 _ rfl
  refine T.cal F 121 rfl (fun _ _ _ _ _ _ us hl => match us, hl with | [_, _], _ => rfl) ?_
  refine F.ok scl_pick (fun vs H Q E h => ?_) (fun cdv A outer s H vs Q E hr h => ?_)
  · obtain ⟨h, sc, l, xs, rfl, _⟩ := h
    rfl
  obtain ⟨h, sc, l, xs, rfl, hH, hS, ne, h1, h2, k⟩ := h
  refine ⟨_, (pss_one (ps_ret (pe_ix ix_list (pv 1) (pe_k (ok_l_take T) (hr.mono (by decide)) (pa_cons (pv 0) (pa_cons (pe_callB call_len_seq rfl (fr_len T) (by decide +kernel) (pa_cons (pv 1) pa_nil)) pa_nil))) (fun _ _ => rfl)))), ?_⟩
  refine ⟨_, rfl, _, rfl, _, rfl, l, _, rfl, .inl hS, h, sc, _, rfl, hH, by omega, by omega, fun r H' kp hh a b => ?_⟩
  have hr : r.toNat < xs.length := by omega
  exact ⟨l, xs, r, _, rfl, rfl, kp.sqL hS ne, at_of (j := r.toNat) (by omega) (List.getElem?_eq_getElem hr), k _ _ kp hh (List.getElem_mem hr)⟩
theorem scl_wide : FnScope ["_law_hand_here"] ["_law_hand_here"] (defScope sl_wide) := ⟨rfl, rfl, rfl, by decide +kernel, rfl, by decide +kernel, by decide +kernel⟩
theorem ok_l_wide (T : Tx w K mg) : Cal P w K mg base "_law_wide" 2 ["_law_hand_here"] spWide := by
  obtain ⟨fd, F⟩ : ∃ fd, Fun K "_law_wide" "_law_wide" sl_wide 729 fd := T.fn 63 _ rfl
  refine T.cal F 122 rfl (fun _ _ _ _ _ _ us hl => match us, hl with | [_], _ => rfl) ?_
  refine F.ok scl_wide (fun vs H Q E h => ?_) (fun cdv A outer s H vs Q E hr h => ?_)
  · obtain ⟨h, sc, rfl, _⟩ := h
    rfl
  obtain ⟨h, sc, rfl, hH, k⟩ := h
  refine ⟨_, (pss_one (ps_ret (pe_op op_sub (pe_op op_add (pe_op op_mul (pe_k (ok_l_take T) (hr.mono (by decide)) (pa_cons (pv 0) (pa_cons pe_int pa_nil))) pe_int) (pe_k (ok_l_take T) (hr.mono (by decide)) (pa_cons (pv 0) (pa_cons pe_int pa_nil)))) pe_int))), ?_⟩
  refine ⟨_, rfl, h, sc, _, rfl, hH, by decide, by decide, fun r H1 kp1 hh1 a b => ?_⟩
  refine ⟨_, _, rfl, rfl, .inr ⟨by decide, by decide⟩, _, rfl, h, sc, _, rfl, hh1, by decide, by decide, fun r2 H2 kp2 hh2 a2 b2 => ?_⟩
  refine ⟨_, _, rfl, rfl, _, _, rfl, rfl, k _ _ (kp1.trans kp2) hh2 ⟨_, rfl, ?_⟩⟩
  unfold Sml
  omega
theorem scl_small : FnScope ["_law_hand_here", "_law_way"] ["_law_hand_here"] (defScope sl_small) := ⟨rfl, rfl, rfl, by decide +kernel, rfl, by decide +kernel, by decide +kernel⟩
theorem ok_l_small (T : Tx w K mg) : Cal P w K mg base "_law_small" 3 ["_law_hand_here"] spWide := by
  obtain ⟨fd, F⟩ : ∃ fd, Fun K "_law_small" "_law_small" sl_small 736 fd := T.fn 64 _ rfl
  refine T.cal F 123 rfl (fun _ _ _ _ _ _ us hl => match us, hl with | [_], _ => rfl) ?_
  refine F.ok scl_small (fun vs H Q E h => ?_) (fun cdv A outer s H vs Q E hr h => ?_)
  · obtain ⟨h, sc, rfl, _⟩ := h
    rfl
  obtain ⟨h, sc, rfl, hH, k⟩ := h
  refine ⟨_, (pss_cons (ps_set (i := 1) scl_small.nd rfl (Or.inl rfl) (pe_k (ok_l_take T) (hr.mono (by decide)) (pa_cons (pv 0) (pa_cons pe_int pa_nil))))
    (pss_cons (ps_if (pt_cmpR op_eq (pv 1) pe_int (nomark _)) (pss_one (ps_ret (pe_k (ok_l_wide T) (hr.mono (by decide)) (pa_cons (pv 0) pa_nil)))) pss_nil)
    (pss_cons (ps_if (pt_cmpR op_eq (pv 1) pe_int (nomark _)) (pss_one (ps_ret (pe_k (ok_l_pick T) (hr.mono (by decide)) (pa_cons (pv 0) (pa_cons (pe_lst (pa_cons pe_int (pa_cons (pe_un un_neg pe_int) (pa_cons pe_int (pa_cons (pe_un un_neg pe_int) (pa_cons pe_int (pa_cons pe_int (pa_cons pe_int (pa_cons pe_int (pa_cons (pe_un un_neg pe_int) pa_nil)))))))))) pa_nil))))) pss_nil)
    (pss_cons (ps_if (pt_cmpR op_lt (pv 1) pe_int (nomark _)) (pss_one (ps_ret (pe_op op_sub (pe_k (ok_l_take T) (hr.mono (by decide)) (pa_cons (pv 0) (pa_cons pe_int pa_nil))) pe_int))) pss_nil)
    (pss_one (ps_ret (pe_op op_sub (pe_k (ok_l_take T) (hr.mono (by decide)) (pa_cons (pv 0) (pa_cons pe_int pa_nil))) pe_int))))))), ?_⟩
  refine ⟨_, rfl, h, sc, _, rfl, hH, by decide, by decide, fun r H1 kp1 hh1 a b => ?_⟩
  refine ⟨_, rfl, rfl, _, rfl, ite2 (fun c => ?_) (fun c => ?_)⟩
  · exact ⟨_, rfl, h, sc, rfl, hh1, fun v H2 kp2 hh2 q => k v H2 (kp1.trans kp2) hh2 q⟩
  refine ⟨_, rfl, rfl, _, rfl, ite2 (fun c => ?_) (fun c => ?_)⟩
  · refine ⟨_, rfl, ⟨_, rfl, _, rfl, _, rfl, (by show 9 ≤ sizeLine; decide), fun p np => ?_⟩⟩

    refine ⟨h, sc, p, _, rfl, hh1.new np, SqL.of upd_same, (hh1.neH np).1, by decide, by decide, fun v H2 kp3 hh2 q => k v H2 ((kp1.new1 np).trans kp3) hh2 ?_⟩
    simp only [List.mem_cons, List.not_mem_nil, or_false] at q
    unfold Sml
    rcases q with q | q | q | q | q | q | q | q | q <;> exact ⟨_, q, by decide⟩
  refine ⟨_, rfl, _, _, rfl, rfl, _, rfl, ite2 (fun c => ?_) (fun c => ?_)⟩
  · refine ⟨_, rfl, h, sc, _, rfl, hh1, by decide, by decide, fun r2 H2 kp2 hh2 a2 b2 => ⟨_, _, rfl, rfl, k _ _ (kp1.trans kp2) hh2 ⟨_, rfl, ?_⟩⟩⟩
    unfold Sml
    omega
  · refine ⟨_, rfl, h, sc, _, rfl, hh1, by decide, by decide, fun r2 H2 kp2 hh2 a2 b2 => ⟨_, _, rfl, rfl, k _ _ (kp1.trans kp2) hh2 ⟨_, rfl, ?_⟩⟩⟩
    unfold Sml
    omega
theorem scl_seed : FnScope ["_law_hand_here"] ["_law_hand_here"] (defScope sl_seed) := ⟨rfl, rfl, rfl, by decide +kernel, rfl, by decide +kernel, by decide +kernel⟩
theorem ok_l_seed (T : Tx w K mg) : Cal P w K mg base "_law_seed" 3 ["_law_hand_here"] spSeed := by
  obtain ⟨fd, F⟩ : ∃ fd, Fun K "_law_seed" "_law_seed" sl_seed 743 fd := T.fn 65 _ rfl
  refine T.cal F 124 rfl (fun _ _ _ _ _ _ us hl => match us, hl with | [_], _ => rfl) ?_
  refine F.ok scl_seed (fun vs H Q E h => ?_) (fun cdv A outer s H vs Q E hr h => ?_)
  · obtain ⟨h, sc, rfl, _⟩ := h
    rfl
  obtain ⟨h, sc, rfl, hH, k⟩ := h
  refine ⟨_, (pss_cons (ps_if (pt_cmpR op_eq (pe_k (ok_l_take T) (hr.mono (by decide)) (pa_cons (pv 0) (pa_cons pe_int pa_nil))) pe_int (nomark _)) (pss_one (ps_ret (pe_k (ok_l_pick T) (hr.mono (by decide)) (pa_cons (pv 0) (pa_cons (pe_lst (pa_cons pe_int (pa_cons pe_int (pa_cons pe_int (pa_cons pe_int (pa_cons pe_int pa_nil)))))) pa_nil))))) pss_nil)
    (pss_one (ps_ret (pe_op op_add pe_int (pe_op op_mod (pe_callTy call_int1 rfl (fr_int T) (by decide +kernel) (pa_cons (pe_op op_add (pe_op op_mul (pe_k (ok_l_take T) (hr.mono (by decide)) (pa_cons (pv 0) (pa_cons pe_int pa_nil))) pe_int) (pe_k (ok_l_take T) (hr.mono (by decide)) (pa_cons (pv 0) (pa_cons pe_int pa_nil)))) pa_nil)) pe_int))))), ?_⟩
  refine ⟨_, rfl, h, sc, _, rfl, hH, by decide, by decide, fun r H1 kp1 hh1 a b => ?_⟩
  refine ⟨rfl, _, rfl, ite2 (fun c => ?_) (fun c => ?_)⟩
  · refine ⟨_, rfl, (by show 5 ≤ sizeLine; decide), fun p np => ?_⟩

    refine ⟨h, sc, p, _, rfl, hh1.new np, SqL.of upd_same, (hh1.neH np).1, by decide, by decide, fun v H2 kp3 hh2 q => k v H2 ((kp1.new1 np).trans kp3) hh2 ?_⟩
    simp only [List.mem_cons, List.not_mem_nil, or_false] at q
    rcases q with q | q | q | q | q <;> exact ⟨_, q, by decide⟩
  · refine ⟨_, rfl, h, sc, _, rfl, hh1, by decide, by decide, fun r1 H2 kp2 hh2 a2 b2 => ?_⟩
    refine ⟨_, _, rfl, rfl, .inr ⟨by decide, by decide⟩, _, rfl, h, sc, _, rfl, hh2, by decide, by decide, fun r3 H3 kp3 hh3 a3 b3 => ?_⟩
    refine ⟨_, _, rfl, rfl, .inl ⟨_, rfl, _, _, rfl, rfl, (by show (0 : Int) < 2147483646; decide), _, _, rfl, rfl, k _ _ (kp1.trans (kp2.trans kp3)) hh3 ⟨_, rfl, ?_⟩⟩⟩
    omega
theorem scl_ground_sign : FnScope ["_law_hand_here", "_law_full", "_law_way"] ["_law_hand_here", "_law_full"] (defScope sl_ground_sign) := ⟨rfl, rfl, rfl, by decide +kernel, rfl, by decide +kernel, by decide +kernel⟩
theorem ok_l_ground_sign (T : Tx w K mg) : Cal P w K mg base "_law_ground_sign" 2 ["_law_hand_here", "_law_full"] spGsign := by
  obtain ⟨fd, F⟩ : ∃ fd, Fun K "_law_ground_sign" "_law_ground_sign" sl_ground_sign 764 fd := T.fn 68 _ rfl
  refine T.cal F 127 rfl (fun _ _ _ _ _ _ us hl => match us, hl with | [_, _], _ => rfl) ?_
  refine F.ok scl_ground_sign (fun vs H Q E h => ?_) (fun cdv A outer s H vs Q E hr h => ?_)
  · obtain ⟨h, sc, n, rfl, _⟩ := h
    rfl
  obtain ⟨h, sc, n, rfl, hH, k⟩ := h
  refine ⟨_, (pss_cons (ps_set (i := 2) scl_ground_sign.nd rfl (Or.inl rfl) (pe_k (ok_l_take T) (hr.mono (by decide)) (pa_cons (pv 0) (pa_cons pe_int pa_nil))))
    (pss_cons (ps_if (pt_cmpR op_lt (pv 2) (pv 1) (nomark _)) (pss_one (ps_ret pe_str)) pss_nil)
    (pss_cons (ps_if (pt_cmpR op_eq (pv 2) pe_int (nomark _)) (pss_one (ps_ret (pe_ix ix_str pe_str (pe_k (ok_l_take T) (hr.mono (by decide)) (pa_cons (pv 0) (pa_cons pe_int pa_nil))) (fun _ _ => rfl)))) pss_nil)
    (pss_one (ps_ret pe_str))))), ?_⟩
  refine ⟨_, rfl, h, sc, _, rfl, hH, by decide, by decide, fun r H1 kp1 hh1 a b => ?_⟩
  refine ⟨_, rfl, _, rfl, _, _, rfl, rfl, _, rfl, ite2 (fun c => ?_) (fun c => ?_)⟩
  · exact k _ _ kp1 hh1 ⟨35, rfl, .inl rfl⟩
  refine ⟨_, rfl, rfl, _, rfl, ite2 (fun c => ?_) (fun c => ?_)⟩
  · refine ⟨_, rfl, h, sc, _, rfl, hh1, by decide, by decide, fun r2 H2 kp2 hh2 a2 b2 => ?_⟩
    have e : atI ("0123456789" : Str).cps.toList r2 = some (48 + r2.toNat) := by
      have e1 : ("0123456789" : Str).cps.toList = [48, 49, 50, 51, 52, 53, 54, 55, 56, 57] := by decide +kernel
      rw [e1]
      refine atI_of (j := r2.toNat) (by omega) ?_
      have : r2.toNat < 10 := by omega
      generalize r2.toNat = j at this
      match j, this with
      | 0, _ => rfl
      | 1, _ => rfl
      | 2, _ => rfl
      | 3, _ => rfl
      | 4, _ => rfl
      | 5, _ => rfl
      | 6, _ => rfl
      | 7, _ => rfl
      | 8, _ => rfl
      | 9, _ => rfl
    exact ⟨_, _, _, rfl, rfl, (by decide +kernel), e, k _ _ (kp1.trans kp2) hh2 ⟨48 + r2.toNat, rfl, .inr (.inr ⟨by omega, by omega⟩)⟩⟩
  · exact k _ _ kp1 hh1 ⟨46, rfl, .inr (.inl rfl)⟩
end
end G
set_option Elab.async false
set_option linter.all false
set_option maxRecDepth 100000
set_option maxHeartbeats 4000000
namespace G
open PySem PySem.Spec PyProof.Rows L2
/-! ### the ground's rows -/
def rwV (cs : List Nat) : V := .str ⟨cs.toArray⟩
structure RowsOk (rows : List (List Nat)) (wd : Nat) : Prop where
  sg : ∀ r ∈ rows, r.length = wd ∧ ∀ c ∈ r, Sg c
  n1 : 1 ≤ rows.length
  n2 : rows.length ≤ 12
  w1 : 1 ≤ wd
  w2 : wd ≤ 12
def RowsAt (H : Hp) (v : V) (rows : List (List Nat)) : Prop := ∃ t, v = .ref t ∧ H t = some (.tup (rows.map rwV))
theorem RowsAt.kp {M : Addr → Prop} {H H' : Hp} {v : V} {rows : List (List Nat)} (x : RowsAt H v rows) (k : Kp M H H') : RowsAt H' v rows := by
  obtain ⟨t, e, h⟩ := x
  exact ⟨t, e, k.tup _ _ h⟩
theorem joinL_ones : ∀ cs : List Nat, TL.joinL [] (cs.map fun c => [c]) = cs
  | [] => rfl
  | [_] => rfl
  | x :: z :: r => by
    show [x] ++ ([] ++ TL.joinL [] ((z :: r).map fun c => [c])) = x :: z :: r
    rw [joinL_ones (z :: r)]
    rfl
theorem join_signs (cs : List Nat) : Txt.join ("" : Str) (cs.map fun c => (⟨#[c]⟩ : Str)) = ⟨cs.toArray⟩ := by
  have h : TL.tl (Str.join ("" : Str) (cs.map fun c => (⟨#[c]⟩ : Str))) = cs := by
    rw [TL.tl_join]
    have e1 : TL.tl ("" : Str) = [] := by decide +kernel
    rw [e1, List.map_map]
    exact joinL_ones cs
  rw [TL.join_eq]
  generalize Str.join ("" : Str) (cs.map fun c => (⟨#[c]⟩ : Str)) = z at h
  obtain ⟨⟨l⟩⟩ := z
  have h2 : l = cs := h
  rw [h2]
def spRows : Sp := fun vs H Q _ => ∃ (h sc : Addr) (wd hg : Int), vs = [.ref h, .int wd, .int hg] ∧ Hand H h sc ∧ 1 ≤ wd ∧ wd ≤ 12 ∧ 1 ≤ hg ∧ hg ≤ 12 ∧
  Gn h sc H Q fun v H' => ∃ rows, RowsAt H' v rows ∧ RowsOk rows wd.toNat
def spGround : Sp := fun vs H Q _ => ∃ (h sc : Addr), vs = [.ref h] ∧ Hand H h sc ∧ Gn h sc H Q fun v H' => ∃ rows wd, RowsAt H' v rows ∧ RowsOk rows wd
theorem len_sum_ones (cs : List Nat) : ((cs.map fun c => (⟨#[c]⟩ : Str)).map (·.length)).sum = cs.length := by
  induction cs with
  | nil => rfl
  | cons c r ih =>
    rw [List.map_cons, List.map_cons, List.sum_cons, ih, List.length_cons]
    show 1 + r.length = r.length + 1
    omega
theorem map_sg1 (cs : List Nat) : cs.map sg1 = (cs.map fun c => (⟨#[c]⟩ : Str)).map V.str := by
  rw [List.map_map]
  rfl
section
variable {P : Program} {w : World} {K : PySem.W.Frag} {mg : Str → Option Value} {base : Heap}
theorem scl_rows : FnScope ["_law_hand_here", "_law_wide_here", "_law_high", "_law_full", "_law_found", "_law_k", "_law_j"] ["_law_hand_here", "_law_wide_here", "_law_high"] (defScope sl_rows) := ⟨rfl, rfl, rfl, by decide +kernel, rfl, by decide +kernel, by decide +kernel⟩
theorem ok_l_rows (T : Tx w K mg) : Cal P w K mg base "_law_rows" 3 ["_law_hand_here", "_law_wide_here", "_law_high"] spRows := by
  obtain ⟨fd, F⟩ : ∃ fd, Fun K "_law_rows" "_law_rows" sl_rows 769 fd := T.fn 69 _ rfl
  refine T.cal F 128 rfl (fun _ _ _ _ _ _ us hl => match us, hl with | [_, _, _], _ => rfl) ?_
  refine F.ok scl_rows (fun vs H Q E h => ?_) (fun cdv A outer s H vs Q E hr h => ?_)
  · obtain ⟨h, sc, wd, hg, rfl, _⟩ := h
    rfl
  obtain ⟨h, sc, wd, hg, rfl, hH, w1, w2, g1, g2, k⟩ := h
  refine ⟨_, (pss_cons (ps_set (i := 3) scl_rows.nd rfl (Or.inr rfl) (pe_k (ok_l_take T) (hr.mono (by decide)) (pa_cons (pv 0) (pa_cons pe_int pa_nil))))
    (pss_cons (ps_set (i := 4) scl_rows.nd rfl (Or.inl rfl) (pe_lst pa_nil))
    (pss_cons (ps_for PassesOwn.never rfl (pi_range1 rfl (fr_range T) (pa_cons (pv 2) pa_nil)) (pg_name (i := 5) scl_rows.nd rfl (Or.inl rfl))
      (pss_one (ps_expr (pe_bm PySem.F.plainAttrs_list PySem.F.slot_list_append PySem.F.type_list_append mt_append (pv 4) (pa_cons (pe_join pe_str (pe_lc (own := [("_law_j", 6)]) (g := gName 6) (by rfl) scl_rows.nd (pi_range1 rfl (fr_range T) (pa_cons (pv 1) pa_nil)) (blkOk_by (own := [("_law_j", 6)]) (N := ["_law_hand_here", "_law_wide_here", "_law_high", "_law_full", "_law_found", "_law_k", "_law_j"]) (sc := defScope sl_rows) (by decide +kernel)) (fun _ _ _ _ _ => pg_name (i := 6) scl_rows.nd rfl (Or.inl rfl)) (fun _ _ _ _ _ => pts_nil) (fun _ _ _ _ _ => (pe_k (ok_l_ground_sign T) (hr.mono (by decide)) (pa_cons (pv 0) (pa_cons (pv 3) pa_nil)))))) pa_nil)))))
    (pss_one (ps_ret (pe_callTy call_tuple_of rfl (fr_tuple T) (by decide +kernel) (pa_cons (pv 4) pa_nil))))))), ?_⟩
  refine ⟨_, rfl, h, sc, _, rfl, hH, by decide, by decide, fun r H1 kp1 hh1 a b => ?_⟩
  refine ⟨(by show 0 ≤ sizeLine; decide), fun l nl => ?_⟩
  have H0l : H l = none := by
    cases q : H l with
    | none => rfl
    | some o =>
      obtain ⟨xs, e⟩ := hH.ls
      by_cases z : l = h
      · obtain ⟨ys, e2⟩ := hh1.ls
        rw [z, e2] at nl
        cases nl
      · rw [kp1.keep l o q z] at nl
        cases nl
  refine ⟨_, rfl, hg, rfl, by omega, by omega, for_range (lo := 0) (n := hg.toNat)
    (fun i σ' H' => ∃ (k1 k2 : Option V) (rows : List (List Nat)), σ' = [some (.ref h), some (.int wd), some (.int hg), some (.int r), some (.ref l), k1, k2] ∧ Kp (Mh h) H H' ∧ Hand H' h sc ∧ H' l = some (.lst (rows.map rwV)) ∧ rows.length = i ∧ (∀ r ∈ rows, r.length = wd.toNat ∧ ∀ c ∈ r, Sg c)) ?_ ?_ ?_⟩
  · exact ⟨none, none, [], rfl, kp1.new1 nl, hh1.new nl, upd_same, rfl, fun r hr => nomatch hr⟩
  · rintro i σ' H2 hi ⟨k1, k2, rows, rfl, kp2, hh2, e2, en, hs⟩
    refine ⟨_, rfl, .inl ⟨rfl, _, SqL.of e2⟩, ⟨_, rfl⟩, _, rfl, wd, rfl, by omega, by omega, fun D nD => ?_⟩
    have H0D : H D = none := by
      cases q : H D with
      | none => rfl
      | some o =>
        by_cases z : D = h
        · obtain ⟨ys, e3⟩ := hh2.ls
          rw [z, e3] at nD
          cases nD
        · rw [kp2.keep D o q z] at nD
          cases nD
    have lD : l ≠ D := ne_of_none e2 nD
    have lh : l ≠ h := (hh1.neH nl).1
    refine lc_range (lo := 0) (n := wd.toNat) (fun j H' => Kp (Mh h) H H' ∧ Hand H' h sc ∧ H' l = some (.lst (rows.map rwV)) ∧ ∃ cs : List Nat, H' D = some (.lst (cs.map sg1)) ∧ cs.length = j ∧ ∀ c ∈ cs, Sg c) ?_ ?_ ?_
    · exact ⟨kp2.priv H0D, hh2.new nD, by rw [upd_ne lD]; exact e2, [], upd_same, rfl, fun c hc => nomatch hc⟩
    · rintro j H3 hj ⟨kp3, hh3, e3, cs, eD, el, hc⟩
      refine ⟨rfl, _, rfl, _, rfl, h, sc, r, rfl, hh3, fun v H4 kp4 hh4 ⟨c, ev, hsg⟩ => ?_⟩
      have dh : D ≠ h := (hh2.neH nD).1
      refine ⟨_, kp4.keep _ _ eD dh, ?_, kp3.trans kp4 |>.priv H0D, ?_, ?_, cs ++ [c], ?_, ?_, ?_⟩
      · rw [List.length_map, el]
        exact Nat.lt_of_lt_of_le (show j < 100 by omega) (by decide)
      · exact hh4.keep (M := fun a => a = D) ⟨fun a o q n => by rw [upd_ne n]; exact q, fun a xs q => by
          rw [upd_ne (ne_of q (kp4.keep _ _ eD dh) (by intro z; cases z))]; exact q⟩ (fun z => dh z.symm) (fun z => (hh2.neH nD).2 z.symm)
      · rw [upd_ne lD]
        exact kp4.keep _ _ e3 lh
      · rw [upd_same, ev, List.map_append]
        rfl
      · rw [List.length_append, el]
        rfl
      · intro c' hc'
        rcases List.mem_append.mp hc' with z | z
        · exact hc c' z
        · rw [List.mem_singleton.mp z]
          exact hsg
    · rintro H3 ⟨kp3, hh3, e3, cs, eD, el, hc⟩
      rw [map_sg1] at eD
      refine ⟨_, D, _, rfl, rfl, .inl (SqL.of eD), ?_, l, _, _, rfl, rfl, e3, ?_, ?_⟩
      · rw [len_sum_ones, List.length_map]
        show cs.length + cs.length * 0 ≤ _
        omega
      · rw [List.length_map, en]
        exact Nat.lt_of_lt_of_le (show i < 100 by omega) (by decide)
      · refine ⟨_, _, rows ++ [cs], rfl, kp3.priv H0l, ?_, ?_, ?_, ?_⟩
        · exact hh3.keep (M := fun a => a = l) ⟨fun a o q n => by rw [upd_ne n]; exact q, fun a xs q => by
            rw [upd_ne (ne_of q e3 (by intro z; cases z))]; exact q⟩ (fun z => lh z.symm) (fun z => (hh1.neH nl).2 z.symm)
        · rw [upd_same, join_signs, List.map_append]
          rfl
        · rw [List.length_append, en]
          rfl
        · intro r' hr'
          rcases List.mem_append.mp hr' with z | z
          · exact hs r' z
          · rw [List.mem_singleton.mp z]
            exact ⟨el, hc⟩
  · rintro σ' H2 ⟨k1, k2, rows, rfl, kp2, hh2, e2, en, hs⟩
    refine ⟨_, rfl, l, _, rfl, .inl ⟨SqL.of e2, fun t nt => ?_⟩⟩
    exact k _ _ (kp2.new1 nt) (hh2.new nt) ⟨rows, ⟨t, rfl, upd_same⟩, hs, by omega, by omega, by omega, by omega⟩
theorem scl_ground : FnScope ["_law_hand_here", "_law_way"] ["_law_hand_here"] (defScope sl_ground) := ⟨rfl, rfl, rfl, by decide +kernel, rfl, by decide +kernel, by decide +kernel⟩
theorem ok_l_ground (T : Tx w K mg) : Cal P w K mg base "_law_ground" 4 ["_law_hand_here"] spGround := by
  obtain ⟨fd, F⟩ : ∃ fd, Fun K "_law_ground" "_law_ground" sl_ground 776 fd := T.fn 70 _ rfl
  refine T.cal F 129 rfl (fun _ _ _ _ _ _ us hl => match us, hl with | [_], _ => rfl) ?_
  refine F.ok scl_ground (fun vs H Q E h => ?_) (fun cdv A outer s H vs Q E hr h => ?_)
  · obtain ⟨h, sc, rfl, _⟩ := h
    rfl
  obtain ⟨h, sc, rfl, hH, k⟩ := h
  refine ⟨_, (pss_cons (ps_set (i := 1) scl_ground.nd rfl (Or.inl rfl) (pe_k (ok_l_take T) (hr.mono (by decide)) (pa_cons (pv 0) (pa_cons pe_int pa_nil))))
    (pss_cons (ps_if (pt_cmpR op_eq (pv 1) pe_int (nomark _)) (pss_one (ps_ret (pe_k (ok_l_rows T) (hr.mono (by decide)) (pa_cons (pv 0) (pa_cons (pe_op op_add pe_int (pe_k (ok_l_take T) (hr.mono (by decide)) (pa_cons (pv 0) (pa_cons pe_int pa_nil)))) (pa_cons (pe_op op_add pe_int (pe_k (ok_l_take T) (hr.mono (by decide)) (pa_cons (pv 0) (pa_cons pe_int pa_nil)))) pa_nil)))))) pss_nil)
    (pss_cons (ps_if (pt_cmpR op_eq (pv 1) pe_int (nomark _)) (pss_one (ps_ret (pe_k (ok_l_rows T) (hr.mono (by decide)) (pa_cons (pv 0) (pa_cons pe_int (pa_cons pe_int pa_nil)))))) pss_nil)
    (pss_one (ps_ret (pe_k (ok_l_rows T) (hr.mono (by decide)) (pa_cons (pv 0) (pa_cons (pe_op op_add pe_int (pe_k (ok_l_take T) (hr.mono (by decide)) (pa_cons (pv 0) (pa_cons pe_int pa_nil)))) (pa_cons (pe_op op_add pe_int (pe_k (ok_l_take T) (hr.mono (by decide)) (pa_cons (pv 0) (pa_cons pe_int pa_nil)))) pa_nil))))))))), ?_⟩
  refine ⟨_, rfl, h, sc, _, rfl, hH, by decide, by decide, fun r H1 kp1 hh1 a b => ?_⟩
  refine ⟨_, rfl, rfl, _, rfl, ite2 (fun c => ?_) (fun c => ?_)⟩
  · refine ⟨_, rfl, _, rfl, h, sc, _, rfl, hh1, by decide, by decide, fun r2 H2 kp2 hh2 a2 b2 => ?_⟩
    refine ⟨_, _, rfl, rfl, _, rfl, h, sc, _, rfl, hh2, by decide, by decide, fun r3 H3 kp3 hh3 a3 b3 => ?_⟩
    refine ⟨_, _, rfl, rfl, h, sc, _, _, rfl, hh3, by omega, by omega, by omega, by omega, fun v H4 kp4 hh4 ⟨rows, q, q2⟩ => ?_⟩
    exact k v H4 (kp1.trans (kp2.trans (kp3.trans kp4))) hh4 ⟨rows, _, q, q2⟩
  refine ⟨_, rfl, rfl, _, rfl, ite2 (fun c => ?_) (fun c => ?_)⟩
  · refine ⟨_, rfl, h, sc, _, _, rfl, hh1, by decide, by decide, by decide, by decide, fun v H4 kp4 hh4 ⟨rows, q, q2⟩ => ?_⟩
    exact k v H4 (kp1.trans kp4) hh4 ⟨rows, _, q, q2⟩
  · refine ⟨_, rfl, _, rfl, h, sc, _, rfl, hh1, by decide, by decide, fun r2 H2 kp2 hh2 a2 b2 => ?_⟩
    refine ⟨_, _, rfl, rfl, _, rfl, h, sc, _, rfl, hh2, by decide, by decide, fun r3 H3 kp3 hh3 a3 b3 => ?_⟩
    refine ⟨_, _, rfl, rfl, h, sc, _, _, rfl, hh3, by omega, by omega, by omega, by omega, fun v H4 kp4 hh4 ⟨rows, q, q2⟩ => ?_⟩
    exact k v H4 (kp1.trans (kp2.trans (kp3.trans kp4))) hh4 ⟨rows, _, q, q2⟩
end
end G
set_option Elab.async false
set_option linter.all false
set_option maxRecDepth 100000
set_option maxHeartbeats 4000000
namespace G
open PySem PySem.Spec PyProof.Rows L2
def spWord : Sp := fun vs H Q _ => ∃ (h sc : Addr) (r : Int), vs = [.ref h, .int r] ∧ Hand H h sc ∧ (r = 1 ∨ r = 0) ∧ Gn h sc H Q fun v _ => ∃ x : Nm, v = .str x.str ∧ (r = 1 → x ∈ Nm.all) ∧ (r = 0 → x ∈ Nm.sets)
def spW1 : Sp := fun vs H Q _ => ∃ (h sc : Addr), vs = [.ref h] ∧ Hand H h sc ∧ Gn h sc H Q fun v _ => ∃ x : W1, v = .str x.str
def spW2 : Sp := fun vs H Q _ => ∃ (h sc : Addr), vs = [.ref h] ∧ Hand H h sc ∧ Gn h sc H Q fun v _ => ∃ x : W2, v = .str x.str
def spLeaf : Sp := fun vs H Q _ => ∃ (h sc : Addr), vs = [.ref h] ∧ Hand H h sc ∧ Gn h sc H Q fun v H' => ∃ e : Ex, ExAt H' e v ∧ e.ok ∧ e.sz = 1 ∧ e.dp = 1
def Mr (h r : Addr) : Addr → Prop := fun a => a = h ∨ a = r
def spTree (n : Nat) : Sp := fun vs H Q _ => ∃ (h sc rm : Addr) (d z : Int), vs = [.ref h, .int d, .ref rm] ∧ Hand H h sc ∧ H rm = some (.lst [.int z]) ∧ rm ≠ h ∧ rm ≠ sc ∧ 1 ≤ d ∧ d ≤ n ∧ 0 ≤ z ∧
  ∀ (v : V) (H' : Hp) (e : Ex) (z' : Int), Kp (Mr h rm) H H' → Hand H' h sc → H' rm = some (.lst [.int z']) → ExAt H' e v → e.ok → (e.sz : Int) + z' = 1 + z → 0 ≤ z' → (e.dp : Int) ≤ d → Q v H'
theorem setl_hand {H H' : Hp} {h sc r : Addr} {xs : List V} {o : HO} (x : Hand H h sc) (e : H r = some (.lst xs)) (n1 : r ≠ h) (n2 : r ≠ sc) : Hand (upd H r o) h sc :=
  x.keep (M := fun a => a = r) ⟨fun a u q n => by rw [upd_ne n]; exact q, fun a ys q => by rw [upd_ne (ne_of q e (by intro z; cases z))]; exact q⟩ (fun z => n1 z.symm) (fun z => n2 z.symm)
section
variable {P : Program} {w : World} {K : PySem.W.Frag} {mg : Str → Option Value} {base : Heap}
theorem scl_word : FnScope ["_law_hand_here", "_law_reads"] ["_law_hand_here", "_law_reads"] (defScope sl_word) := ⟨rfl, rfl, rfl, by decide +kernel, rfl, by decide +kernel, by decide +kernel⟩
theorem ok_l_word (T : Tx w K mg) : Cal P w K mg base "_law_word" 3 ["_law_hand_here", "_law_reads"] spWord := by
  obtain ⟨fd, F⟩ : ∃ fd, Fun K "_law_word" "_law_word" sl_word 809 fd := T.fn 75 _ rfl
  refine T.cal F 134 rfl (fun _ _ _ _ _ _ us hl => match us, hl with | [_, _], _ => rfl) ?_
  refine F.ok scl_word (fun vs H Q E h => ?_) (fun cdv A outer s H vs Q E hr h => ?_)
  · obtain ⟨h, sc, r, rfl, _⟩ := h
    rfl
  obtain ⟨h, sc, r, rfl, hH, hr1, k⟩ := h
  refine ⟨_, (pss_cons (ps_if (pt_cmpR op_eq (pv 1) pe_int (nomark _)) (pss_one (ps_ret (pe_k (ok_l_pick T) (hr.mono (by decide)) (pa_cons (pv 0) (pa_cons (pe_lst (pa_cons pe_str (pa_cons pe_str (pa_cons pe_str (pa_cons pe_str (pa_cons pe_str (pa_cons pe_str (pa_cons pe_str (pa_cons pe_str (pa_cons pe_str (pa_cons pe_str (pa_cons pe_str (pa_cons pe_str (pa_cons pe_str (pa_cons pe_str (pa_cons pe_str (pa_cons pe_str (pa_cons pe_str (pa_cons pe_str (pa_cons pe_str (pa_cons pe_str (pa_cons pe_str (pa_cons pe_str pa_nil))))))))))))))))))))))) pa_nil))))) pss_nil)
    (pss_one (ps_ret (pe_k (ok_l_pick T) (hr.mono (by decide)) (pa_cons (pv 0) (pa_cons (pe_lst (pa_cons pe_str (pa_cons pe_str (pa_cons pe_str (pa_cons pe_str (pa_cons pe_str (pa_cons pe_str (pa_cons pe_str (pa_cons pe_str (pa_cons pe_str (pa_cons pe_str (pa_cons pe_str (pa_cons pe_str (pa_cons pe_str (pa_cons pe_str pa_nil))))))))))))))) pa_nil)))))), ?_⟩
  refine ⟨_, rfl, rfl, _, rfl, ite2 (fun c => ?_) (fun c => ?_)⟩
  · have c1 : r = 1 := V.int.inj (of_decide_eq_true c)
    refine ⟨_, rfl, (by show 22 ≤ sizeLine; decide), fun p np => ?_⟩
    refine ⟨h, sc, p, Nm.all.map (fun x => V.str x.str), rfl, hH.new np, SqL.of upd_same, (hH.neH np).1, by decide, by decide, fun v H2 kp3 hh2 q => k v H2 ((Kp.new np).trans kp3) hh2 ?_⟩
    obtain ⟨x, hx, e⟩ := List.mem_map.mp q
    exact ⟨x, e.symm, fun _ => hx, fun z => by omega⟩
  · have c1 : ¬ r = 1 := fun z => c (decide_eq_true (congrArg V.int z))
    refine ⟨_, rfl, (by show 14 ≤ sizeLine; decide), fun p np => ?_⟩
    refine ⟨h, sc, p, Nm.sets.map (fun x => V.str x.str), rfl, hH.new np, SqL.of upd_same, (hH.neH np).1, by decide, by decide, fun v H2 kp3 hh2 q => k v H2 ((Kp.new np).trans kp3) hh2 ?_⟩
    obtain ⟨x, hx, e⟩ := List.mem_map.mp q
    exact ⟨x, e.symm, fun z => absurd z c1, fun _ => hx⟩
theorem scl_one_word : FnScope ["_law_hand_here"] ["_law_hand_here"] (defScope sl_one_word) := ⟨rfl, rfl, rfl, by decide +kernel, rfl, by decide +kernel, by decide +kernel⟩
theorem ok_l_one_word (T : Tx w K mg) : Cal P w K mg base "_law_one_word" 3 ["_law_hand_here"] spW1 := by
  obtain ⟨fd, F⟩ : ∃ fd, Fun K "_law_one_word" "_law_one_word" sl_one_word 816 fd := T.fn 76 _ rfl
  refine T.cal F 135 rfl (fun _ _ _ _ _ _ us hl => match us, hl with | [_], _ => rfl) ?_
  refine F.ok scl_one_word (fun vs H Q E h => ?_) (fun cdv A outer s H vs Q E hr h => ?_)
  · obtain ⟨h, sc, rfl, _⟩ := h
    rfl
  obtain ⟨h, sc, rfl, hH, k⟩ := h
  refine ⟨_, (pss_one (ps_ret (pe_k (ok_l_pick T) (hr.mono (by decide)) (pa_cons (pv 0) (pa_cons (pe_lst (pa_cons pe_str (pa_cons pe_str (pa_cons pe_str (pa_cons pe_str (pa_cons pe_str (pa_cons pe_str (pa_cons pe_str pa_nil)))))))) pa_nil))))), ?_⟩
  refine ⟨_, rfl, (by show 7 ≤ sizeLine; decide), fun p np => ?_⟩
  refine ⟨h, sc, p, W1.all.map (fun x => V.str x.str), rfl, hH.new np, SqL.of upd_same, (hH.neH np).1, by decide, by decide, fun v H2 kp3 hh2 q => k v H2 ((Kp.new np).trans kp3) hh2 ?_⟩
  obtain ⟨x, hx, e⟩ := List.mem_map.mp q
  exact ⟨x, e.symm⟩
theorem scl_two_word : FnScope ["_law_hand_here"] ["_law_hand_here"] (defScope sl_two_word) := ⟨rfl, rfl, rfl, by decide +kernel, rfl, by decide +kernel, by decide +kernel⟩
theorem ok_l_two_word (T : Tx w K mg) : Cal P w K mg base "_law_two_word" 3 ["_law_hand_here"] spW2 := by
  obtain ⟨fd, F⟩ : ∃ fd, Fun K "_law_two_word" "_law_two_word" sl_two_word 823 fd := T.fn 77 _ rfl
  refine T.cal F 136 rfl (fun _ _ _ _ _ _ us hl => match us, hl with | [_], _ => rfl) ?_
  refine F.ok scl_two_word (fun vs H Q E h => ?_) (fun cdv A outer s H vs Q E hr h => ?_)
  · obtain ⟨h, sc, rfl, _⟩ := h
    rfl
  obtain ⟨h, sc, rfl, hH, k⟩ := h
  refine ⟨_, (pss_one (ps_ret (pe_k (ok_l_pick T) (hr.mono (by decide)) (pa_cons (pv 0) (pa_cons (pe_lst (pa_cons pe_str (pa_cons pe_str (pa_cons pe_str (pa_cons pe_str (pa_cons pe_str (pa_cons pe_str (pa_cons pe_str (pa_cons pe_str (pa_cons pe_str (pa_cons pe_str pa_nil))))))))))) pa_nil))))), ?_⟩
  refine ⟨_, rfl, (by show 10 ≤ sizeLine; decide), fun p np => ?_⟩
  refine ⟨h, sc, p, W2.all.map (fun x => V.str x.str), rfl, hH.new np, SqL.of upd_same, (hH.neH np).1, by decide, by decide, fun v H2 kp3 hh2 q => k v H2 ((Kp.new np).trans kp3) hh2 ?_⟩
  obtain ⟨x, hx, e⟩ := List.mem_map.mp q
  exact ⟨x, e.symm⟩
theorem scl_leaf : FnScope ["_law_hand_here"] ["_law_hand_here"] (defScope sl_leaf) := ⟨rfl, rfl, rfl, by decide +kernel, rfl, by decide +kernel, by decide +kernel⟩
theorem ok_l_leaf (T : Tx w K mg) : Cal P w K mg base "_law_leaf" 4 ["_law_hand_here"] spLeaf := by
  obtain ⟨fd, F⟩ : ∃ fd, Fun K "_law_leaf" "_law_leaf" sl_leaf 830 fd := T.fn 78 _ rfl
  refine T.cal F 137 rfl (fun _ _ _ _ _ _ us hl => match us, hl with | [_], _ => rfl) ?_
  refine F.ok scl_leaf (fun vs H Q E h => ?_) (fun cdv A outer s H vs Q E hr h => ?_)
  · obtain ⟨h, sc, rfl, _⟩ := h
    rfl
  obtain ⟨h, sc, rfl, hH, k⟩ := h
  refine ⟨_, (pss_cons (ps_if (pt_cmpR op_eq (pe_k (ok_l_take T) (hr.mono (by decide)) (pa_cons (pv 0) (pa_cons pe_int pa_nil))) pe_int (nomark _)) (pss_one (ps_ret (pe_tup (pa_cons pe_str (pa_cons (pe_k (ok_l_small T) (hr.mono (by decide)) (pa_cons (pv 0) pa_nil)) pa_nil))))) pss_nil)
    (pss_one (ps_ret (pe_tup (pa_cons pe_str (pa_cons (pe_k (ok_l_word T) (hr.mono (by decide)) (pa_cons (pv 0) (pa_cons pe_int pa_nil))) pa_nil)))))), ?_⟩
  refine ⟨_, rfl, h, sc, _, rfl, hH, by decide, by decide, fun r H1 kp1 hh1 a b => ?_⟩
  refine ⟨rfl, _, rfl, ite2 (fun c => ?_) (fun c => ?_)⟩
  · refine ⟨_, rfl, h, sc, rfl, hh1, fun v H2 kp2 hh2 ⟨z, ev, hz⟩ => ⟨(by show 2 ≤ sizeLine; decide), fun p np => ?_⟩⟩
    subst ev
    exact k _ _ ((kp1.trans kp2).new1 np) (hh2.new np) ⟨.num z, ⟨p, rfl, upd_same⟩, hz, rfl, rfl⟩
  · refine ⟨_, rfl, h, sc, 1, rfl, hh1, .inl rfl, fun v H2 kp2 hh2 ⟨x, ev, hx, _⟩ => ⟨(by show 2 ≤ sizeLine; decide), fun p np => ?_⟩⟩
    subst ev
    exact k _ _ ((kp1.trans kp2).new1 np) (hh2.new np) ⟨.nam x, ⟨p, rfl, upd_same⟩, hx rfl, rfl, rfl⟩
theorem scl_tree : FnScope ["_law_hand_here", "_law_deep", "_law_room", "_law_way", "_law_word_here", "_law_one"] ["_law_hand_here", "_law_deep", "_law_room"] (defScope sl_tree) := ⟨rfl, rfl, rfl, by decide +kernel, rfl, by decide +kernel, by decide +kernel⟩
theorem ok_l_tree1 {n : Nat} (C : Cal P w K mg base "_law_tree" (5 + n) ["_law_hand_here", "_law_deep", "_law_room"] (spTree n)) (T : Tx w K mg) : Cal P w K mg base "_law_tree" (5+n+1) ["_law_hand_here", "_law_deep", "_law_room"] (spTree (n+1)) := by
  obtain ⟨fd, F⟩ : ∃ fd, Fun K "_law_tree" "_law_tree" sl_tree 837 fd := T.fn 79 _ rfl
  refine T.cal F 138 rfl (fun _ _ _ _ _ _ us hl => match us, hl with | [_, _, _], _ => rfl) ?_
  refine F.ok scl_tree (fun vs H Q E h => ?_) (fun cdv A outer s H vs Q E hr h => ?_)
  · obtain ⟨h, sc, rm, d, z, rfl, _⟩ := h
    rfl
  obtain ⟨h, sc, rm, d, z, rfl, hH, eR, n1, n2, d1, d2, z1, k⟩ := h
  refine ⟨_, (pss_cons (ps_set (i := 3) scl_tree.nd rfl (Or.inl rfl) (pe_k (ok_l_take T) (hr.mono (by omega)) (pa_cons (pv 0) (pa_cons pe_int pa_nil))))
    (pss_cons (ps_if (PW.pt (pw_or (pt_cmpR op_lt (pv 1) pe_int (nomark _)) (pw_or (pt_cmpR op_lt (pe_ix ix_list (pv 2) pe_int (fun _ _ => rfl)) pe_int (nomark _)) (pw_or1 (pt_cmpR op_lt (pv 3) pe_int (nomark _)))))) (pss_one (ps_ret (pe_k (ok_l_leaf T) (hr.mono (by omega)) (pa_cons (pv 0) pa_nil)))) pss_nil)
    (pss_cons (ps_if (PW.pt (pw_or (pt_cmpR op_lt (pv 3) pe_int (nomark _)) (pw_or1 (pt_cmpR op_lt (pe_ix ix_list (pv 2) pe_int (fun _ _ => rfl)) pe_int (nomark _))))) (pss_cons (ps_asg (pe_op op_sub (pe_ix ix_list (pv 2) pe_int (fun _ _ => rfl)) pe_int) (pg_sub (pv 2) pe_int set_list))
    (pss_cons (ps_set (i := 4) scl_tree.nd rfl (Or.inl rfl) (pe_k (ok_l_one_word T) (hr.mono (by omega)) (pa_cons (pv 0) pa_nil)))
    (pss_one (ps_ret (pe_tup (pa_cons (pv 4) (pa_cons (pe_k C (hr.mono (by omega)) (pa_cons (pv 0) (pa_cons (pe_op op_sub (pv 1) pe_int) (pa_cons (pv 2) pa_nil)))) pa_nil))))))) pss_nil)
    (pss_cons (ps_asg (pe_op op_sub (pe_ix ix_list (pv 2) pe_int (fun _ _ => rfl)) pe_int) (pg_sub (pv 2) pe_int set_list))
    (pss_cons (ps_set (i := 4) scl_tree.nd rfl (Or.inl rfl) (pe_k (ok_l_two_word T) (hr.mono (by omega)) (pa_cons (pv 0) pa_nil)))
    (pss_cons (ps_set (i := 5) scl_tree.nd rfl (Or.inl rfl) (pe_k C (hr.mono (by omega)) (pa_cons (pv 0) (pa_cons (pe_op op_sub (pv 1) pe_int) (pa_cons (pv 2) pa_nil)))))
    (pss_one (ps_ret (pe_tup (pa_cons (pv 4) (pa_cons (pv 5) (pa_cons (pe_k C (hr.mono (by omega)) (pa_cons (pv 0) (pa_cons (pe_op op_sub (pv 1) pe_int) (pa_cons (pv 2) pa_nil)))) pa_nil)))))))))))), ?_⟩
  refine ⟨_, rfl, h, sc, _, rfl, hH, by decide, by decide, fun r H1 kp1 hh1 a b => ?_⟩
  have eR1 : H1 rm = some (.lst [.int z]) := kp1.keep _ _ eR n1
  have kw1 : Kp (Mr h rm) H H1 := kp1.weak fun _ z => .inl z
  have leaf : tRet (tK spLeaf (tCons (tVar 0) tNil)) { nx := fun _ H' => Q .non H', rt := Q } [some (.ref h), some (.int d), some (.ref rm), some (.int r), none, none] H1 := by
    refine ⟨_, rfl, h, sc, rfl, hh1, fun v H2 kp2 hh2 ⟨e, he, ho, hs, hd⟩ => ?_⟩
    exact k v H2 e z (kw1.trans (kp2.weak fun _ z => .inl z)) hh2 (kp2.keep _ _ eR1 n1) he ho (by omega) z1 (by omega)
  have put : ∀ (u : Int) (o : HO), o = HO.lst [.int u] → Hand (upd H1 rm o) h sc ∧ Kp (Mr h rm) H (upd H1 rm o) ∧ (upd H1 rm o) rm = some (.lst [.int u]) := fun u o e => by
    subst e
    exact ⟨setl_hand (H' := H1) hh1 eR1 n1 n2, kw1.set (.inr rfl) (not_tup eR trivial), upd_same⟩
  refine ⟨_, rfl, _, _, rfl, rfl, _, rfl, ite2 (fun c => ?_) (fun c => ?_)⟩
  · exact iteT leaf
  refine ⟨_, rfl, rm, _, 0, _, rfl, rfl, SqL.of eR1, rfl, _, _, rfl, rfl, _, rfl, ite2 (fun c2 => ?_) (fun c2 => ?_)⟩
  · exact iteT leaf
  refine ⟨_, rfl, _, _, rfl, rfl, _, rfl, ite2 (fun c3 => ?_) (fun c3 => ?_)⟩
  · exact leaf
  have c' : ¬ d < 2 := fun q => c (decide_eq_true q)
  have c2' : ¬ z < 1 := fun q => c2 (decide_eq_true q)
  have one : tSeq (tAsg (tOp (rI0 fun i j => V.int (i - j)) (tOp (rIxL K) (tVar 2) (tC (.int 0))) (tC (.int 1))) (gSub (tVar 2) (tC (.int 0)) rSetL))
      (tSeq (tAsg (tK spW1 (tCons (tVar 0) tNil)) (gName 4)) (tRet (tTup (tCons (tVar 4) (tCons (tK (spTree n) (tCons (tVar 0) (tCons (tOp (rI0 fun i j => V.int (i - j)) (tVar 1) (tC (.int 1))) (tCons (tVar 2) tNil)))) tNil)))))
      { nx := fun _ H' => Q .non H', rt := Q } [some (.ref h), some (.int d), some (.ref rm), some (.int r), none, none] H1 := by
    refine ⟨_, rfl, rm, _, 0, _, rfl, rfl, SqL.of eR1, rfl, _, _, rfl, rfl, _, rfl, rm, _, 0, 0, rfl, rfl, eR1, rfl, ?_⟩
    obtain ⟨hP, kP, eP⟩ := put (z - 1) _ rfl
    refine ⟨_, rfl, h, sc, rfl, hP, fun v H2 kp2 hh2 ⟨x, ev⟩ => ?_⟩
    subst ev
    refine ⟨_, rfl, _, rfl, _, rfl, _, _, rfl, rfl, _, rfl, h, sc, rm, d - 1, z - 1, rfl, hh2, kp2.keep _ _ eP n1, n1, n2, by omega, by omega, by omega, fun v H3 e z' kp3 hh3 e3 he ho hs hz hd => ?_⟩
    refine ⟨(by show 2 ≤ sizeLine; decide), fun p np => ?_⟩
    have pn : p ≠ rm := (ne_of_none e3 np).symm
    refine k _ _ (.one x e) z' ((kP.trans ((kp2.weak fun _ z => .inl z).trans kp3)).trans (Kp.new np)) (hh3.new np) (by rw [upd_ne pn.symm]; exact e3) ⟨p, v, rfl, upd_same, he.kp (Kp.new (M := M0) np)⟩ ho ?_ hz ?_
    · unfold Ex.sz
      omega
    · unfold Ex.dp
      omega
  refine ⟨_, rfl, _, _, rfl, rfl, _, rfl, ite2 (fun c4 => ?_) (fun c4 => ?_)⟩
  · exact iteT one
  refine ⟨_, rfl, rm, _, 0, _, rfl, rfl, SqL.of eR1, rfl, _, _, rfl, rfl, _, rfl, ite2 (fun c5 => ?_) (fun c5 => ?_)⟩
  · exact one
  have c5' : ¬ z < 2 := fun q => c5 (decide_eq_true q)
  refine ⟨_, rfl, rm, _, 0, _, rfl, rfl, SqL.of eR1, rfl, _, _, rfl, rfl, _, rfl, rm, _, 0, 0, rfl, rfl, eR1, rfl, ?_⟩
  obtain ⟨hP, kP, eP⟩ := put (z - 2) _ rfl
  refine ⟨_, rfl, h, sc, rfl, hP, fun v H2 kp2 hh2 ⟨x, ev⟩ => ?_⟩
  subst ev
  refine ⟨_, rfl, _, rfl, _, _, rfl, rfl, _, rfl, h, sc, rm, d - 1, z - 2, rfl, hh2, kp2.keep _ _ eP n1, n1, n2, by omega, by omega, by omega, fun v H3 e z' kp3 hh3 e3 he ho hs hz hd => ?_⟩
  refine ⟨_, rfl, _, rfl, _, rfl, _, rfl, _, _, rfl, rfl, _, rfl, h, sc, rm, d - 1, z', rfl, hh3, e3, n1, n2, by omega, by omega, by omega, fun v2 H4 e2 z2 kp4 hh4 e4 he2 ho2 hs2 hz2 hd2 => ?_⟩
  refine ⟨(by show 3 ≤ sizeLine; decide), fun p np => ?_⟩
  have pn : p ≠ rm := (ne_of_none e4 np).symm
  refine k _ _ (.two x e e2) z2 ((kP.trans ((kp2.weak fun _ z => .inl z).trans (kp3.trans kp4))).trans (Kp.new np)) (hh4.new np) (by rw [upd_ne pn.symm]; exact e4) ⟨p, v, v2, rfl, upd_same, (he.kp kp4).kp (Kp.new (M := M0) np), he2.kp (Kp.new (M := M0) np)⟩ ⟨ho, ho2⟩ ?_ hz2 ?_
  · unfold Ex.sz
    omega
  · unfold Ex.dp
    omega
theorem ok_l_tree (T : Tx w K mg) : ∀ n : Nat, Cal P w K mg base "_law_tree" (5 + n) ["_law_hand_here", "_law_deep", "_law_room"] (spTree n)
  | 0 => by
    obtain ⟨fd, F⟩ : ∃ fd, Fun K "_law_tree" "_law_tree" sl_tree 837 fd := T.fn 79 _ rfl
    exact T.cal F 138 rfl (fun _ _ _ _ _ _ us hl => match us, hl with | [_, _, _], _ => rfl) (fnok_none fun vs H Q E h => by
      obtain ⟨_, _, _, d, z, _, _, _, _, _, d1, d2, _⟩ := h
      have : d ≤ 0 := d2
      omega)
  | n + 1 => ok_l_tree1 (ok_l_tree T n) T
end
end G
set_option Elab.async false
set_option linter.all false
set_option maxRecDepth 100000
set_option maxHeartbeats 4000000
namespace G
open PySem PySem.Spec PyProof.Rows L2
def rm2 (s p : Int) : HO := .lst [.int s, .int p]
/-- the hand and the rooms stand -/
structure HR (H : Hp) (h sc ro : Addr) (s p : Int) : Prop where
  hd : Hand H h sc
  at_ : H ro = some (rm2 s p)
  n1 : ro ≠ h
  n2 : ro ≠ sc
def spPart : Sp := fun vs H Q _ => ∃ (h sc ro : Addr) (s p kept : Int), vs = [.ref h, .ref ro, .int kept] ∧ HR H h sc ro s p ∧ 0 ≤ kept ∧ 1 + kept ≤ p ∧
  ∀ (v : V) (H' : Hp) (e : Ex), Kp (Mr h ro) H H' → HR H' h sc ro s (p - e.sz) → ExAt H' e v → e.fit → (e.sz : Int) + kept ≤ p → Q v H'
def spBody (n : Nat) : Sp := fun vs H Q _ => ∃ (h sc ro : Addr) (d s p most : Int), vs = [.ref h, .int d, .ref ro, .int most] ∧ HR H h sc ro s p ∧ 1 ≤ d ∧ d ≤ n ∧ 0 ≤ most ∧ most ≤ 100 ∧ 0 ≤ s ∧ 0 ≤ p ∧
  ∀ (t : Addr) (H' : Hp) (l : List Sm) (xs : List V), Kp (Mr h ro) H H' → HR H' h sc ro (s - cnts l) (p - prts l) → H' t = some (.tup xs) → BdAt H' l xs → oks l → (cnts l : Int) ≤ s → (prts l : Int) ≤ p → (bds l : Int) ≤ d → l.length ≤ 1000 → Q (.ref t) H'
def StQ (H : Hp) (h sc ro : Addr) (d s p : Int) (Q : VK) : Prop :=
  ∀ (v : V) (H' : Hp) (x : Sm), Kp (Mr h ro) H H' → HR H' h sc ro (s + 1 - x.cnt) (p - x.prt) → SmAt H' x v → x.ok → (x.cnt : Int) ≤ s + 1 → (x.prt : Int) ≤ p → 1 + (x.bd : Int) ≤ d → Q v H'
def spStm (n : Nat) : Sp := fun vs H Q _ => ∃ (h sc ro : Addr) (d s p : Int), vs = [.ref h, .int d, .ref ro] ∧ HR H h sc ro s p ∧ 1 ≤ d ∧ d ≤ n ∧ 0 ≤ s ∧ 3 ≤ p ∧ StQ H h sc ro d s p Q
def spCnt (n : Nat) : Sp := fun vs H Q _ => ∃ (h sc ro : Addr) (d s p : Int), vs = [.ref h, .int d, .ref ro] ∧ HR H h sc ro s p ∧ 2 ≤ d ∧ d ≤ n ∧ 1 ≤ s ∧ 6 ≤ p ∧ StQ H h sc ro d s p Q
section
variable {H H1 : Hp} {h sc ro p : Addr} {s q s' q' : Int} {o : HO}
theorem HR.new (x : HR H h sc ro s q) (n : H p = none) : HR (upd H p o) h sc ro s q := ⟨x.hd.new n, by rw [upd_ne (ne_of_none x.at_ n)]; exact x.at_, x.n1, x.n2⟩
theorem HR.put (x : HR H h sc ro s q) : HR (upd H ro (rm2 s' q')) h sc ro s' q' := ⟨setl_hand (H' := H) x.hd x.at_ x.n1 x.n2, upd_same, x.n1, x.n2⟩
theorem HR.hand (x : HR H h sc ro s q) (k : Kp (Mh h) H H1) (hh : Hand H1 h sc) : HR H1 h sc ro s q := ⟨hh, k.keep _ _ x.at_ x.n1, x.n1, x.n2⟩
theorem HR.neH (x : HR H h sc ro s q) (n : H p = none) : p ≠ h ∧ p ≠ sc ∧ p ≠ ro := ⟨(x.hd.neH n).1, (x.hd.neH n).2, (ne_of_none x.at_ n).symm⟩
theorem HR.keep {M : Addr → Prop} (x : HR H h sc ro s q) (k : Kp M H H1) (a : ¬ M h) (b : ¬ M sc) (c : ¬ M ro) : HR H1 h sc ro s q := ⟨x.hd.keep k a b, k.keep _ _ x.at_ c, x.n1, x.n2⟩
theorem Kp.putR {H0 : Hp} (k : Kp (Mr h ro) H0 H) (x : HR H h sc ro s q) (y : ∃ a b, H0 ro = some (rm2 a b)) : Kp (Mr h ro) H0 (upd H ro o) := by
  obtain ⟨a, b, y⟩ := y
  exact k.set (.inr (Eq.refl _)) (not_tup y trivial)
theorem Kp.r1 (k : Kp (Mh h) H H1) : Kp (Mr h ro) H H1 := k.weak fun _ z => .inl z
end
section
variable {P : Program} {w : World} {K : PySem.W.Frag} {mg : Str → Option Value} {base : Heap}
theorem scl_part : FnScope ["_law_hand_here", "_law_rooms", "_law_kept", "_law_most", "_law_begin", "_law_room", "_law_found"] ["_law_hand_here", "_law_rooms", "_law_kept"] (defScope sl_part) := ⟨rfl, rfl, rfl, by decide +kernel, rfl, by decide +kernel, by decide +kernel⟩
theorem ok_l_part (T : Tx w K mg) : Cal P w K mg base "_law_part" 17 ["_law_hand_here", "_law_rooms", "_law_kept"] spPart := by
  obtain ⟨fd, F⟩ : ∃ fd, Fun K "_law_part" "_law_part" sl_part 844 fd := T.fn 80 _ rfl
  refine T.cal F 139 rfl (fun _ _ _ _ _ _ us hl => match us, hl with | [_, _, _], _ => rfl) ?_
  refine F.ok scl_part (fun vs H Q E h => ?_) (fun cdv A outer s H vs Q E hr h => ?_)
  · obtain ⟨h, sc, ro, s, p, kept, rfl, _⟩ := h
    rfl
  obtain ⟨h, sc, ro, s, p, kept, rfl, hR, k0, k1, k⟩ := h
  refine ⟨_, (pss_cons (ps_set (i := 3) scl_part.nd rfl (Or.inl rfl) (pe_callB (call_max2 rfl) rfl (fr_max T) (by decide +kernel) (pa_cons pe_int (pa_cons (pe_callB (call_min2 rfl) rfl (fr_min T) (by decide +kernel) (pa_cons pe_int (pa_cons (pe_op op_sub (pe_op op_sub (pe_ix ix_list (pv 1) pe_int (fun _ _ => rfl)) pe_int) (pv 2)) pa_nil))) pa_nil))))
    (pss_cons (ps_set (i := 4) scl_part.nd rfl (Or.inl rfl) (pe_callB (call_min2 rfl) rfl (fr_min T) (by decide +kernel) (pa_cons (pv 3) (pa_cons (pe_k (ok_l_pick T) (hr.mono (by decide)) (pa_cons (pv 0) (pa_cons (pe_lst (pa_cons pe_int (pa_cons pe_int (pa_cons pe_int (pa_cons pe_int (pa_cons pe_int (pa_cons pe_int (pa_cons pe_int (pa_cons pe_int pa_nil))))))))) pa_nil))) pa_nil))))
    (pss_cons (ps_set (i := 5) scl_part.nd rfl (Or.inl rfl) (pe_lst (pa_cons (pv 4) pa_nil)))
    (pss_cons (ps_set (i := 6) scl_part.nd rfl (Or.inl rfl) (pe_k (ok_l_tree T 10) (hr.mono (by decide)) (pa_cons (pv 0) (pa_cons pe_int (pa_cons (pv 5) pa_nil)))))
    (pss_cons (ps_asg (pe_op op_sub (pe_op op_sub (pe_ix ix_list (pv 1) pe_int (fun _ _ => rfl)) pe_int) (pe_op op_sub (pv 4) (pe_ix ix_list (pv 5) pe_int (fun _ _ => rfl)))) (pg_sub (pv 1) pe_int set_list))
    (pss_one (ps_ret (pv 6)))))))), ?_⟩
  refine ⟨_, rfl, ro, _, 1, _, rfl, rfl, SqL.of hR.at_, rfl, _, _, rfl, rfl, _, rfl, _, _, rfl, rfl, _, _, rfl, _, _, rfl, ?_⟩
  have hm : ∃ m : Int, (if (if p - 1 - kept < 39 then p - 1 - kept else 39) > 0 then (if p - 1 - kept < 39 then p - 1 - kept else 39) else 0) = m ∧ 0 ≤ m ∧ m ≤ 39 ∧ m ≤ p - 1 - kept := by
    refine ⟨_, rfl, ?_⟩
    split <;> split <;> omega
  obtain ⟨m, em, m0, m1, m2⟩ := hm
  show tSeq _ _ _ ([some (.ref h), some (.ref ro), some (.int kept), some (.int _), none, none, none]) H
  rw [em]
  refine ⟨_, rfl, _, rfl, (by show 8 ≤ sizeLine; decide), fun a na => ?_⟩
  refine ⟨h, sc, a, _, rfl, hR.hd.new na, SqL.of upd_same, (hR.hd.neH na).1, by decide, by decide, fun v H2 kp2 hh2 q => ?_⟩
  have hv : ∃ j : Int, v = .int j ∧ 0 ≤ j := by
    simp only [List.mem_cons, List.not_mem_nil, or_false] at q
    rcases q with q | q | q | q | q | q | q | q <;> exact ⟨_, q, by decide⟩
  obtain ⟨j, rfl, j0⟩ := hv
  have hR2 : HR H2 h sc ro s p := (hR.new na).hand kp2 hh2
  have kpA : Kp (Mr h ro) H H2 := (Kp.new (M := Mh h) na |>.trans kp2).r1
  refine ⟨_, _, rfl, ?_⟩
  have hb : ∃ b : Int, (if j < m then j else m) = b ∧ 0 ≤ b ∧ b ≤ m := by
    refine ⟨_, rfl, ?_⟩
    split <;> omega
  obtain ⟨b, eb, b0, b1⟩ := hb
  show tSeq _ _ _ ([some (.ref h), some (.ref ro), some (.int kept), some (.int m), some (.int _), none, none]) H2
  rw [eb]
  refine ⟨_, rfl, (by show 1 ≤ sizeLine; decide), fun rm nr => ?_⟩
  have nrH := hR2.neH nr
  have H0r : H rm = none := by
    cases z : H rm with
    | none => rfl
    | some o => rw [kpA.keep rm o z (fun e => e.elim nrH.1 nrH.2.2)] at nr; cases nr
  refine ⟨_, rfl, _, rfl, h, sc, rm, 10, b, rfl, hR2.hd.new nr, upd_same, nrH.1, nrH.2.1, by decide, by decide, b0, fun v H3 e z' kp3 hh3 e3 he ho hs hz hd => ?_⟩
  have ero : H3 ro = some (rm2 s p) := kp3.keep _ _ (hR2.new nr).at_ (fun e => e.elim hR.n1 (fun q => nrH.2.2 q.symm))
  have kpB : Kp (Mr h ro) H H3 := kpA.then (Kp.new (M := M0) nr |>.weak (fun _ z => z.elim) |>.trans kp3) (fun a z => z.elim (fun q => .inl (.inl q)) (fun q => .inr (by rw [q]; exact H0r)))
  have hR3 : HR H3 h sc ro s p := ⟨hh3, ero, hR.n1, hR.n2⟩
  refine ⟨_, rfl, ro, _, 1, _, rfl, rfl, SqL.of ero, rfl, _, _, rfl, rfl, _, rfl, _, rfl, rm, _, 0, _, rfl, rfl, SqL.of e3, rfl, _, _, rfl, rfl, _, _, rfl, rfl, _, rfl, ro, _, 1, 1, rfl, rfl, ero, rfl, ?_⟩
  have ep : p - 1 - (b - z') = p - (e.sz : Int) := by omega
  have hR4 : HR (upd H3 ro (rm2 s (p - e.sz))) h sc ro s (p - e.sz) := hR3.put
  have kpC : Kp (Mr h ro) H (upd H3 ro (rm2 s (p - e.sz))) := kpB.putR hR3 ⟨_, _, hR.at_⟩
  have heC : ExAt (upd H3 ro (rm2 s (p - e.sz))) e v := he.kp (M := fun a => a = ro) (Kp.rfl.set rfl (not_tup ero trivial))
  refine ⟨_, rfl, ?_⟩
  show Q v (upd H3 ro (.lst [.int s, .int (p - 1 - (b - z'))]))
  rw [ep]
  exact k v _ e kpC hR4 heC ⟨ho, by omega, by omega⟩ (by omega)
theorem scl_counted : FnScope ["_law_hand_here", "_law_deep", "_law_rooms", "_law_cell", "_law_inner", "_law_more"] ["_law_hand_here", "_law_deep", "_law_rooms"] (defScope sl_counted) := ⟨rfl, rfl, rfl, by decide +kernel, rfl, by decide +kernel, by decide +kernel⟩
theorem ok_l_counted1 {n : Nat} (B : Cal P w K mg base "_law_body" (30 + 4 * n) ["_law_hand_here", "_law_deep", "_law_rooms", "_law_most"] (spBody n)) (T : Tx w K mg) : Cal P w K mg base "_law_counted" (31+4*n+1) ["_law_hand_here", "_law_deep", "_law_rooms"] (spCnt (n+1)) := by
  obtain ⟨fd, F⟩ : ∃ fd, Fun K "_law_counted" "_law_counted" sl_counted 851 fd := T.fn 81 _ rfl
  refine T.cal F 140 rfl (fun _ _ _ _ _ _ us hl => match us, hl with | [_, _, _], _ => rfl) ?_
  refine F.ok scl_counted (fun vs H Q E h => ?_) (fun cdv A outer s H vs Q E hr h => ?_)
  · obtain ⟨h, sc, ro, d, s, p, rfl, _⟩ := h
    rfl
  obtain ⟨h, sc, ro, d, s, p, rfl, hR, d1, d2, s1, p1, k⟩ := h
  refine ⟨_, (pss_cons (ps_set (i := 3) scl_counted.nd rfl (Or.inl rfl) (pe_k (ok_l_pick T) (hr.mono (by omega)) (pa_cons (pv 0) (pa_cons (pe_lst (pa_cons pe_str (pa_cons pe_str (pa_cons pe_str (pa_cons pe_str pa_nil))))) pa_nil))))
    (pss_cons (ps_asg (pe_op op_sub (pe_ix ix_list (pv 2) pe_int (fun _ _ => rfl)) pe_int) (pg_sub (pv 2) pe_int set_list))
    (pss_cons (ps_asg (pe_op op_sub (pe_ix ix_list (pv 2) pe_int (fun _ _ => rfl)) pe_int) (pg_sub (pv 2) pe_int set_list))
    (pss_cons (ps_set (i := 4) scl_counted.nd rfl (Or.inl rfl) (pe_k B (hr.mono (by omega)) (pa_cons (pv 0) (pa_cons (pe_op op_sub (pv 1) pe_int) (pa_cons (pv 2) (pa_cons pe_int pa_nil))))))
    (pss_cons (ps_set (i := 5) scl_counted.nd rfl (Or.inl rfl) (pe_tup (pa_cons pe_str (pa_cons (pv 3) (pa_cons (pe_tup (pa_cons pe_str (pa_cons (pe_tup (pa_cons pe_str (pa_cons (pv 3) pa_nil))) (pa_cons (pe_tup (pa_cons pe_str (pa_cons pe_int pa_nil))) pa_nil)))) pa_nil)))))
    (pss_one (ps_ret (pe_tup (pa_cons pe_str (pa_cons (pe_tup (pa_cons pe_str (pa_cons (pe_tup (pa_cons pe_str (pa_cons (pv 3) pa_nil))) (pa_cons (pe_tup (pa_cons pe_str (pa_cons (pe_k (ok_l_take T) (hr.mono (by omega)) (pa_cons (pv 0) (pa_cons pe_int pa_nil))) pa_nil))) pa_nil)))) (pa_cons (pe_op op_catA (pv 4) (pe_tup (pa_cons (pv 5) pa_nil))) pa_nil))))))))))), ?_⟩
  refine ⟨_, rfl, (by show 4 ≤ sizeLine; decide), fun a na => ?_⟩
  refine ⟨h, sc, a, [Nm.cell 0, .cell 1, .sh 2, .sh 7].map (fun x => V.str x.str), rfl, hR.hd.new na, SqL.of upd_same, (hR.hd.neH na).1, by decide, by decide, fun v H2 kp2 hh2 q => ?_⟩
  obtain ⟨x, hx, ev⟩ := List.mem_map.mp q
  subst ev
  have hxs : x ∈ Nm.sets := by
    simp only [List.mem_cons, List.not_mem_nil, or_false] at hx
    rcases hx with z | z | z | z <;> subst z <;> decide
  have hxa : x ∈ Nm.all := by
    simp only [List.mem_cons, List.not_mem_nil, or_false] at hx
    rcases hx with z | z | z | z <;> subst z <;> decide
  have hR2 : HR H2 h sc ro s p := (hR.new na).hand kp2 hh2
  have kpA : Kp (Mr h ro) H H2 := (Kp.new (M := Mh h) na |>.trans kp2).r1
  refine ⟨_, rfl, ro, _, 0, _, rfl, rfl, SqL.of hR2.at_, rfl, _, _, rfl, rfl, _, rfl, ro, _, 0, 0, rfl, rfl, hR2.at_, rfl, ?_⟩
  have hR3 : HR (upd H2 ro (rm2 (s - 1) p)) h sc ro (s - 1) p := hR2.put
  refine ⟨_, rfl, ro, _, 1, _, rfl, rfl, SqL.of hR3.at_, rfl, _, _, rfl, rfl, _, rfl, ro, _, 1, 1, rfl, rfl, hR3.at_, rfl, ?_⟩
  have hR4 : HR (upd (upd H2 ro (rm2 (s - 1) p)) ro (rm2 (s - 1) (p - 6))) h sc ro (s - 1) (p - 6) := hR3.put
  have kpB : Kp (Mr h ro) H (upd (upd H2 ro (rm2 (s - 1) p)) ro (rm2 (s - 1) (p - 6))) := (kpA.putR hR2 ⟨_, _, hR.at_⟩).putR hR3 ⟨_, _, hR.at_⟩
  show tSeq _ _ _ _ (upd (upd H2 ro (rm2 (s - 1) p)) ro (rm2 (s - 1) (p - 6)))
  generalize upd (upd H2 ro (rm2 (s - 1) p)) ro (rm2 (s - 1) (p - 6)) = H3 at hR4 kpB
  refine ⟨_, rfl, _, rfl, _, _, rfl, rfl, _, rfl, h, sc, ro, d - 1, s - 1, p - 6, 2, rfl, hR4, by omega, by omega, by decide, by decide, by omega, by omega, fun t H5 l xs kp5 hR5 et hl ho hc hp hb hlen => ?_⟩
  refine ⟨_, rfl, _, rfl, (by show 2 ≤ sizeLine; decide), fun a1 n1 => ⟨(by show 2 ≤ sizeLine; decide), fun a2 n2 => ⟨(by show 3 ≤ sizeLine; decide), fun a3 n3 => ⟨(by show 3 ≤ sizeLine; decide), fun a4 n4 => ?_⟩⟩⟩⟩
  have q1 : Kp M0 H5 _ := Kp.new (o := .tup [.str "name", .str x.str]) n1
  have q2 := q1.trans (Kp.new (o := .tup [.str "number", .int 1]) n2)
  have q3 := q2.trans (Kp.new (o := .tup [.str "add", .ref a1, .ref a2]) n3)
  have q4 := q3.trans (Kp.new (o := .tup [.str "set", .str x.str, .ref a3]) n4)
  have e1 := ((Kp.new (M := M0) (o := .tup [.str "number", .int 1]) n2).trans ((Kp.new (o := .tup [.str "add", .ref a1, .ref a2]) n3).trans (Kp.new (o := .tup [.str "set", .str x.str, .ref a3]) n4))).tup a1 _ upd_same
  have e2 := ((Kp.new (M := M0) (o := .tup [.str "add", .ref a1, .ref a2]) n3).trans (Kp.new (o := .tup [.str "set", .str x.str, .ref a3]) n4)).tup a2 _ upd_same
  have e3 := (Kp.new (M := M0) (o := .tup [.str "set", .str x.str, .ref a3]) n4).tup a3 _ upd_same
  have e4 : (upd _ a4 (.tup [.str "set", .str x.str, .ref a3])) a4 = some (.tup [.str "set", .str x.str, .ref a3]) := upd_same (H := upd (upd (upd H5 a1 (.tup [.str "name", .str x.str])) a2 (.tup [.str "number", .int 1])) a3 (.tup [.str "add", .ref a1, .ref a2]))
  have hR6 := ((((hR5.new (o := .tup [.str "name", .str x.str]) n1).new (o := .tup [.str "number", .int 1]) n2).new (o := .tup [.str "add", .ref a1, .ref a2]) n3).new (o := .tup [.str "set", .str x.str, .ref a3]) n4)
  generalize upd (upd (upd (upd H5 a1 (.tup [.str "name", .str x.str])) a2 (.tup [.str "number", .int 1])) a3 (.tup [.str "add", .ref a1, .ref a2])) a4 (.tup [.str "set", .str x.str, .ref a3]) = H6 at q4 e1 e2 e3 e4 hR6
  refine ⟨_, rfl, (by show 2 ≤ sizeLine; decide), fun b1 m1 => ?_⟩
  have hR7 := hR6.new (o := .tup [.str "name", .str x.str]) m1
  have f1 : (upd H6 b1 (.tup [.str "name", .str x.str])) b1 = some (.tup [.str "name", .str x.str]) := upd_same
  have r1 : Kp M0 H6 (upd H6 b1 (.tup [.str "name", .str x.str])) := Kp.new m1
  generalize upd H6 b1 (.tup [.str "name", .str x.str]) = H7 at hR7 f1 r1
  refine ⟨_, rfl, h, sc, _, rfl, hR7.hd, by decide, by decide, fun z H8 kp8 hh8 z1 z2 => ⟨(by show 2 ≤ sizeLine; decide), fun b2 m2 => ⟨(by show 3 ≤ sizeLine; decide), fun b3 m3 => ⟨_, rfl, _, rfl, (by show 1 ≤ sizeLine; decide), fun b4 m4 => ?_⟩⟩⟩⟩
  have hR8 := hR7.hand kp8 hh8
  have hR9 := (((hR8.new (o := .tup [.str "number", .int z]) m2).new (o := .tup [.str "less", .ref b1, .ref b2]) m3).new (o := .tup [.ref a4]) m4)
  have k2 : Kp M0 H8 _ := Kp.new (o := .tup [.str "number", .int z]) m2
  have k3 := Kp.new (M := M0) (o := .tup [.str "less", .ref b1, .ref b2]) m3
  have k4 := Kp.new (M := M0) (o := .tup [.ref a4]) m4
  have kA := k2.trans (k3.trans k4)
  have f2 := (k3.trans k4).tup b2 _ upd_same
  have f3 := k4.tup b3 _ upd_same
  have f4 : (upd (upd (upd H8 b2 (.tup [.str "number", .int z])) b3 (.tup [.str "less", .ref b1, .ref b2])) b4 (.tup [.ref a4])) b4 = some (.tup [.ref a4]) := upd_same
  generalize upd (upd (upd H8 b2 (.tup [.str "number", .int z])) b3 (.tup [.str "less", .ref b1, .ref b2])) b4 (.tup [.ref a4]) = H9 at hR9 kA f2 f3 f4
  have tt : ∀ a ys, H6 a = some (.tup ys) → H9 a = some (.tup ys) := fun a ys e => kA.tup a ys (kp8.tup a ys (r1.tup a ys e))
  have kAll : Kp (Mr h ro) H H9 := kpB.trans (kp5.trans ((q4.weak fun _ z => z.elim).trans ((r1.weak fun _ z => z.elim).trans (kp8.r1.trans (kA.weak fun _ z => z.elim)))))
  have hS : ∀ G, Kp M0 H9 G → SmAt G (.set x (.two .add (.nam x) (.num 1))) (.ref a4) := fun G kg => by
    unfold SmAt
    exact ⟨a4, .ref a3, rfl, kg.tup _ _ (tt _ _ e4), a3, .ref a1, .ref a2, rfl, kg.tup _ _ (tt _ _ e3), ⟨a1, rfl, kg.tup _ _ (tt _ _ e1)⟩, ⟨a2, rfl, kg.tup _ _ (tt _ _ e2)⟩⟩
  have hE : ∀ G, Kp M0 H9 G → ExAt G (.two .less (.nam x) (.num z)) (.ref b3) := fun G kg => ⟨b3, .ref b1, .ref b2, rfl, kg.tup _ _ f3, ⟨b1, rfl, kg.tup _ _ (kA.tup _ _ (kp8.tup _ _ f1))⟩, ⟨b2, rfl, kg.tup _ _ f2⟩⟩
  have hl9 : BdAt H9 l xs := (BdAt.kp kA _ _ (BdAt.kp kp8 _ _ (BdAt.kp r1 _ _ (BdAt.kp q4 _ _ hl))))
  have c1 : cnts (l ++ [Sm.set x (.two .add (.nam x) (.num 1))]) = cnts l + 1 := cnts_snoc _ _
  have c2 : prts (l ++ [Sm.set x (.two .add (.nam x) (.num 1))]) = prts l + 3 := prts_snoc _ _
  have c3 : bds (l ++ [Sm.set x (.two .add (.nam x) (.num 1))]) = max (bds l) (1 + 0) := bds_snoc _ _
  have bp := bds_pos l
  have c4 : oks (l ++ [Sm.set x (.two .add (.nam x) (.num 1))]) := oks_snoc _ _ ho (by
    unfold Sm.ok
    exact ⟨hxs, ⟨hxa, by unfold Ex.ok Sml; decide⟩, (by show 3 ≤ 40; decide), (by show 2 ≤ 10; decide)⟩)
  have last : ∀ (G : Hp) (bt : Addr), Kp M0 H9 G → HR G h sc ro (s - 1 - cnts l) (p - 6 - prts l) → G bt = some (.tup (xs ++ [.ref a4])) → ∀ a, G a = none → Q (.ref a) (upd G a (.tup [.str "while", .ref b3, .ref bt])) := fun G bt kg hRG eb a na => by
    refine k _ _ (.whl (.two .less (.nam x) (.num z)) (l ++ [Sm.set x (.two .add (.nam x) (.num 1))])) (kAll.trans ((kg.weak fun _ z => z.elim).trans (Kp.new na))) ?_ ?_ ?_ ?_ ?_ ?_
    · have e1 : s - 1 - (cnts l : Int) = s + 1 - ((Sm.whl (.two .less (.nam x) (.num z)) (l ++ [Sm.set x (.two .add (.nam x) (.num 1))])).cnt : Int) := by
        simp only [Sm.cnt, c1]
        omega
      have e2 : p - 6 - (prts l : Int) = p - ((Sm.whl (.two .less (.nam x) (.num z)) (l ++ [Sm.set x (.two .add (.nam x) (.num 1))])).prt : Int) := by
        simp only [Sm.prt, c2, Ex.sz]
        omega
      rw [← e1, ← e2]
      exact hRG.new na
    · have kn := Kp.new (M := M0) (o := .tup [.str "while", .ref b3, .ref bt]) na
      unfold SmAt
      exact ⟨a, .ref b3, bt, _, rfl, upd_same, hE _ (kg.trans kn), kn.tup _ _ eb, (BdAt.kp (kg.trans kn) _ _ hl9).snoc (hS _ (kg.trans kn))⟩
    · unfold Sm.ok
      refine ⟨⟨⟨hxa, ?_⟩, (by show 3 ≤ 40; decide), (by show 2 ≤ 10; decide)⟩, c4⟩
      unfold Ex.ok Sml
      omega
    · simp only [Sm.cnt, c1]
      omega
    · simp only [Sm.prt, c2, Ex.sz]
      omega
    · simp only [Sm.bd, c3]
      omega
  refine ⟨t, b4, xs, [.ref a4], rfl, rfl, .of (kA.tup _ _ (kp8.tup _ _ (r1.tup _ _ (q4.tup _ _ et)))), .of f4, ?_, fun z0 => ?_, fun _ z0 => absurd z0 (List.cons_ne_nil _ _), fun _ _ bt nb => ?_⟩
  · rw [hl.len]
    exact Nat.le_trans (show l.length + 1 ≤ 2000 by omega) (by decide)
  · refine ⟨(by show 3 ≤ sizeLine; decide), fun a na => ?_⟩
    exact last H9 b4 Kp.rfl hR9 (by rw [f4, z0]; rfl) a na
  · refine ⟨(by show 3 ≤ sizeLine; decide), fun a na => ?_⟩
    exact last _ bt (Kp.new nb) (hR9.new nb) upd_same a na
end
end G
set_option Elab.async false
set_option linter.all false
set_option maxRecDepth 100000
set_option maxHeartbeats 4000000
namespace G
open PySem PySem.Spec PyProof.Rows L2
section
variable {P : Program} {w : World} {K : PySem.W.Frag} {mg : Str → Option Value} {base : Heap}
theorem scl_statement : FnScope ["_law_hand_here", "_law_deep", "_law_rooms", "_law_way", "_law_kind", "_law_one", "_law_other", "_law_test", "_law_first"] ["_law_hand_here", "_law_deep", "_law_rooms"] (defScope sl_statement) := ⟨rfl, rfl, rfl, by decide +kernel, rfl, by decide +kernel, by decide +kernel⟩
theorem ok_l_statement1 {n : Nat} (B : Cal P w K mg base "_law_body" (30 + 4 * n) ["_law_hand_here", "_law_deep", "_law_rooms", "_law_most"] (spBody n)) (C : Cal P w K mg base "_law_counted" (31 + 4 * n + 1) ["_law_hand_here", "_law_deep", "_law_rooms"] (spCnt (n + 1))) (T : Tx w K mg) : Cal P w K mg base "_law_statement" (32+4*n+1) ["_law_hand_here", "_law_deep", "_law_rooms"] (spStm (n+1)) := by
  obtain ⟨fd, F⟩ : ∃ fd, Fun K "_law_statement" "_law_statement" sl_statement 858 fd := T.fn 82 _ rfl
  refine T.cal F 141 rfl (fun _ _ _ _ _ _ us hl => match us, hl with | [_, _, _], _ => rfl) ?_
  refine F.ok scl_statement (fun vs H Q E h => ?_) (fun cdv A outer s H vs Q E hr h => ?_)
  · obtain ⟨h, sc, ro, d, s, p, rfl, _⟩ := h
    rfl
  obtain ⟨h, sc, ro, d, s, p, rfl, hR, d1, d2, s1, p1, k⟩ := h
  refine ⟨_, (pss_cons (ps_set (i := 3) scl_statement.nd rfl (Or.inl rfl) (pe_k (ok_l_take T) (hr.mono (by omega)) (pa_cons (pv 0) (pa_cons pe_int pa_nil))))
    (pss_cons (ps_if (pt_cmpR op_lt (pv 3) pe_int (nomark _)) (pss_one (ps_ret (pe_tup (pa_cons pe_str (pa_cons (pe_k (ok_l_word T) (hr.mono (by omega)) (pa_cons (pv 0) (pa_cons pe_int pa_nil))) (pa_cons (pe_k (ok_l_part T) (hr.mono (by omega)) (pa_cons (pv 0) (pa_cons (pv 2) (pa_cons pe_int pa_nil)))) pa_nil)))))) pss_nil)
    (pss_cons (ps_if (pt_cmpR op_eq (pv 3) pe_int (nomark _)) (pss_cons (ps_set (i := 4) scl_statement.nd rfl (Or.inl rfl) (pe_op op_fdiv (pe_k (ok_l_take T) (hr.mono (by omega)) (pa_cons (pv 0) (pa_cons pe_int pa_nil))) (pe_op op_add pe_int (pe_op op_mul pe_int (pe_k (ok_l_take T) (hr.mono (by omega)) (pa_cons (pv 0) (pa_cons pe_int pa_nil)))))))
    (pss_cons (ps_set (i := 5) scl_statement.nd rfl (Or.inl rfl) (pe_k (ok_l_part T) (hr.mono (by omega)) (pa_cons (pv 0) (pa_cons (pv 2) (pa_cons pe_int pa_nil)))))
    (pss_cons (ps_set (i := 6) scl_statement.nd rfl (Or.inl rfl) (pe_k (ok_l_part T) (hr.mono (by omega)) (pa_cons (pv 0) (pa_cons (pv 2) (pa_cons pe_int pa_nil)))))
    (pss_one (ps_ret (pe_tup (pa_cons pe_str (pa_cons (pv 4) (pa_cons (pv 5) (pa_cons (pv 6) (pa_cons (pe_k (ok_l_part T) (hr.mono (by omega)) (pa_cons (pv 0) (pa_cons (pv 2) (pa_cons pe_int pa_nil)))) pa_nil))))))))))) pss_nil)
    (pss_cons (ps_if (pt_cmpR op_eq (pv 3) pe_int (nomark _)) (pss_cons (ps_set (i := 5) scl_statement.nd rfl (Or.inl rfl) (pe_k (ok_l_part T) (hr.mono (by omega)) (pa_cons (pv 0) (pa_cons (pv 2) (pa_cons pe_int pa_nil)))))
    (pss_cons (ps_set (i := 6) scl_statement.nd rfl (Or.inl rfl) (pe_k (ok_l_part T) (hr.mono (by omega)) (pa_cons (pv 0) (pa_cons (pv 2) (pa_cons pe_int pa_nil)))))
    (pss_one (ps_ret (pe_tup (pa_cons pe_str (pa_cons (pv 5) (pa_cons (pv 6) (pa_cons (pe_k (ok_l_part T) (hr.mono (by omega)) (pa_cons (pv 0) (pa_cons (pv 2) (pa_cons pe_int pa_nil)))) pa_nil))))))))) pss_nil)
    (pss_cons (ps_if (pt_cmpR op_eq (pv 3) pe_int (nomark _)) (pss_one (ps_ret (pe_tup (pa_cons pe_str pa_nil)))) pss_nil)
    (pss_cons (ps_if (PW.pt (pw_or (pt_cmpR op_lt (pv 3) pe_int (nomark _)) (pw_or1 (pt_cmpR op_lt (pv 1) pe_int (nomark _))))) (pss_one (ps_ret (pe_tup (pa_cons pe_str (pa_cons (pe_k (ok_l_part T) (hr.mono (by omega)) (pa_cons (pv 0) (pa_cons (pv 2) (pa_cons pe_int pa_nil)))) pa_nil))))) pss_nil)
    (pss_cons (ps_if (PW.pt (pw_and (pt_cmpR op_eq (pv 3) pe_int (nomark _)) (pw_and (pt_cmpR op_ge (pe_ix ix_list (pv 2) pe_int (fun _ _ => rfl)) pe_int (nomark _)) (pw_and1 (pt_cmpR op_ge (pe_ix ix_list (pv 2) pe_int (fun _ _ => rfl)) pe_int (nomark _)))))) (pss_one (ps_ret (pe_k C (hr.mono (by omega)) (pa_cons (pv 0) (pa_cons (pv 1) (pa_cons (pv 2) pa_nil)))))) pss_nil)
    (pss_cons (ps_set (i := 7) scl_statement.nd rfl (Or.inl rfl) (pe_k (ok_l_part T) (hr.mono (by omega)) (pa_cons (pv 0) (pa_cons (pv 2) (pa_cons pe_int pa_nil)))))
    (pss_cons (ps_if (pt_cmpR op_eq (pv 3) pe_int (nomark _)) (pss_one (ps_ret (pe_tup (pa_cons pe_str (pa_cons (pv 7) (pa_cons (pe_k B (hr.mono (by omega)) (pa_cons (pv 0) (pa_cons (pe_op op_sub (pv 1) pe_int) (pa_cons (pv 2) (pa_cons pe_int pa_nil))))) pa_nil)))))) pss_nil)
    (pss_cons (ps_set (i := 8) scl_statement.nd rfl (Or.inl rfl) (pe_k B (hr.mono (by omega)) (pa_cons (pv 0) (pa_cons (pe_op op_sub (pv 1) pe_int) (pa_cons (pv 2) (pa_cons pe_int pa_nil))))))
    (pss_one (ps_ret (pe_tup (pa_cons pe_str (pa_cons (pv 7) (pa_cons (pv 8) (pa_cons (pe_k B (hr.mono (by omega)) (pa_cons (pv 0) (pa_cons (pe_op op_sub (pv 1) pe_int) (pa_cons (pv 2) (pa_cons pe_int pa_nil))))) pa_nil))))))))))))))))), ?_⟩
  refine ⟨_, rfl, h, sc, _, rfl, hR.hd, by decide, by decide, fun r H1 kp1 hh1 a b => ?_⟩
  have hR1 := hR.hand kp1 hh1
  refine ⟨_, rfl, _, _, rfl, rfl, _, rfl, ite2 (fun c => ?_) (fun c => ?_)⟩
  · refine ⟨_, rfl, h, sc, 0, rfl, hh1, .inr rfl, fun v H2 kp2 hh2 ⟨x, ev, _, hx⟩ => ?_⟩
    subst ev
    have hR2 := hR1.hand kp2 hh2
    refine ⟨_, rfl, _, rfl, h, sc, ro, s, p, 0, rfl, hR2, by decide, by omega, fun v H3 e kp3 hR3 he ho hs => ⟨(by show 3 ≤ sizeLine; decide), fun t nt => ?_⟩⟩
    refine k _ _ (.set x e) ((kp1.r1.trans (kp2.r1.trans kp3)).trans (Kp.new nt)) ?_ ?_ ?_ ?_ ?_ ?_
    · simp only [Sm.cnt, Sm.prt]
      rw [show s + 1 - ((1 : Nat) : Int) = s by omega]
      exact hR3.new nt
    · unfold SmAt
      exact ⟨t, v, rfl, upd_same, he.kp (Kp.new (M := M0) nt)⟩
    · unfold Sm.ok
      exact ⟨hx rfl, ho⟩
    · simp only [Sm.cnt]
      omega
    · simp only [Sm.prt]
      omega
    · simp only [Sm.bd]
      omega
  refine ⟨_, rfl, rfl, _, rfl, ite2 (fun c => ?_) (fun c => ?_)⟩
  · refine ⟨_, rfl, h, sc, _, rfl, hh1, by decide, by decide, fun r2 H2 kp2 hh2 a2 b2 => ?_⟩
    refine ⟨_, rfl, h, sc, _, rfl, hh2, by decide, by decide, fun r3 H3 kp3 hh3 a3 b3 => ?_⟩
    refine ⟨_, _, rfl, rfl, .inl ⟨by decide, by decide⟩, _, _, rfl, rfl, _, _, rfl, rfl, ⟨by omega, by omega⟩, ?_⟩
    have hk : 0 ≤ r2 / (1 + 2 * r3) ∧ r2 / (1 + 2 * r3) ≤ 7 := by
      have : r3 = 0 ∨ r3 = 1 := by omega
      rcases this with e | e <;> subst e <;> constructor <;> omega
    have hR3 := (hR1.hand kp2 hh2).hand kp3 hh3
    have kA := kp1.r1.trans (kp2.r1 (ro := ro) |>.trans kp3.r1)
    show tSeq _ _ _ ([some (.ref h), some (.int d), some (.ref ro), some (.int r), some (.int _), none, none, none, none]) H3
    generalize r2 / (1 + 2 * r3) = kd at hk
    refine ⟨_, rfl, _, rfl, h, sc, ro, s, p, 2, rfl, hR3, by decide, by omega, fun v1 H4 e1 kp4 hR4 he1 ho1 hs1 => ?_⟩
    refine ⟨_, rfl, _, rfl, h, sc, ro, s, _, 1, rfl, hR4, by decide, by omega, fun v2 H5 e2 kp5 hR5 he2 ho2 hs2 => ?_⟩
    refine ⟨_, rfl, _, rfl, _, rfl, _, rfl, _, rfl, h, sc, ro, s, _, 0, rfl, hR5, by decide, by omega, fun v3 H6 e3 kp6 hR6 he3 ho3 hs3 => ⟨(by show 5 ≤ sizeLine; decide), fun t nt => ?_⟩⟩
    have kn := Kp.new (M := Mr h ro) (o := .tup [.str "make", .int kd, v1, v2, v3]) nt
    refine k _ _ (.make kd e1 e2 e3) (kA.trans (kp4.trans (kp5.trans (kp6.trans kn)))) ?_ ?_ ?_ ?_ ?_ ?_
    · simp only [Sm.cnt, Sm.prt]
      rw [show s + 1 - ((1 : Nat) : Int) = s by omega, show p - ((e1.sz + e2.sz + e3.sz : Nat) : Int) = p - e1.sz - e2.sz - e3.sz by omega]
      exact hR6.new nt
    · unfold SmAt
      exact ⟨t, v1, v2, v3, rfl, upd_same, ((he1.kp kp5).kp kp6).kp kn, (he2.kp kp6).kp kn, he3.kp kn⟩
    · unfold Sm.ok
      exact ⟨hk, ho1, ho2, ho3⟩
    · simp only [Sm.cnt]
      omega
    · simp only [Sm.prt]
      omega
    · simp only [Sm.bd]
      omega
  refine ⟨_, rfl, rfl, _, rfl, ite2 (fun c => ?_) (fun c => ?_)⟩
  · refine ⟨_, rfl, _, rfl, h, sc, ro, s, p, 2, rfl, hR1, by decide, by omega, fun v1 H4 e1 kp4 hR4 he1 ho1 hs1 => ?_⟩
    refine ⟨_, rfl, _, rfl, h, sc, ro, s, _, 1, rfl, hR4, by decide, by omega, fun v2 H5 e2 kp5 hR5 he2 ho2 hs2 => ?_⟩
    refine ⟨_, rfl, _, rfl, _, rfl, _, rfl, h, sc, ro, s, _, 0, rfl, hR5, by decide, by omega, fun v3 H6 e3 kp6 hR6 he3 ho3 hs3 => ⟨(by show 4 ≤ sizeLine; decide), fun t nt => ?_⟩⟩
    have kn := Kp.new (M := Mr h ro) (o := .tup [.str "push", v1, v2, v3]) nt
    refine k _ _ (.push e1 e2 e3) (kp1.r1.trans (kp4.trans (kp5.trans (kp6.trans kn)))) ?_ ?_ ?_ ?_ ?_ ?_
    · simp only [Sm.cnt, Sm.prt]
      rw [show s + 1 - ((1 : Nat) : Int) = s by omega, show p - ((e1.sz + e2.sz + e3.sz : Nat) : Int) = p - e1.sz - e2.sz - e3.sz by omega]
      exact hR6.new nt
    · unfold SmAt
      exact ⟨t, v1, v2, v3, rfl, upd_same, ((he1.kp kp5).kp kp6).kp kn, (he2.kp kp6).kp kn, he3.kp kn⟩
    · unfold Sm.ok
      exact ⟨ho1, ho2, ho3⟩
    · simp only [Sm.cnt]
      omega
    · simp only [Sm.prt]
      omega
    · simp only [Sm.bd]
      omega
  refine ⟨_, rfl, rfl, _, rfl, ite2 (fun c => ?_) (fun c => ?_)⟩
  · refine ⟨(by show 1 ≤ sizeLine; decide), fun t nt => ?_⟩
    refine k _ _ .gone (kp1.r1.trans (Kp.new nt)) ?_ ?_ ?_ ?_ ?_ ?_
    · simp only [Sm.cnt, Sm.prt]
      rw [show s + 1 - ((1 : Nat) : Int) = s by omega, show p - ((0 : Nat) : Int) = p by omega]
      exact hR1.new nt
    · unfold SmAt
      exact ⟨t, rfl, upd_same⟩
    · unfold Sm.ok
      trivial
    · simp only [Sm.cnt]
      omega
    · simp only [Sm.prt]
      omega
    · simp only [Sm.bd]
      omega
  have say : tRet (tTup (tCons (tC (.str "say")) (tCons (tK spPart (tCons (tVar 0) (tCons (tVar 2) (tCons (tC (.int 0)) tNil)))) tNil))) { nx := fun _ H' => Q .non H', rt := Q } [some (.ref h), some (.int d), some (.ref ro), some (.int r), none, none, none, none, none] H1 := by
    refine ⟨_, rfl, _, rfl, h, sc, ro, s, p, 0, rfl, hR1, by decide, by omega, fun v H3 e kp3 hR3 he ho hs => ⟨(by show 2 ≤ sizeLine; decide), fun t nt => ?_⟩⟩
    have kn := Kp.new (M := Mr h ro) (o := .tup [.str "say", v]) nt
    refine k _ _ (.say e) (kp1.r1.trans (kp3.trans kn)) ?_ ?_ ?_ ?_ ?_ ?_
    · simp only [Sm.cnt, Sm.prt]
      rw [show s + 1 - ((1 : Nat) : Int) = s by omega]
      exact hR3.new nt
    · unfold SmAt
      exact ⟨t, v, rfl, upd_same, he.kp kn⟩
    · unfold Sm.ok
      exact ho
    · simp only [Sm.cnt]
      omega
    · simp only [Sm.prt]
      omega
    · simp only [Sm.bd]
      omega
  refine ⟨_, rfl, _, _, rfl, rfl, _, rfl, ite2 (fun c => ?_) (fun c => ?_)⟩
  · exact iteT say
  refine ⟨_, rfl, _, _, rfl, rfl, _, rfl, ite2 (fun c5 => ?_) (fun c5 => ?_)⟩
  · exact say
  have c5' : ¬ d < 2 := fun q => c5 (decide_eq_true q)
  have rest : tSeq (tAsg (tK spPart (tCons (tVar 0) (tCons (tVar 2) (tCons (tC (.int 0)) tNil)))) (gName 7))
      (tSeq (tIfS (tTest (tOp rEq (tVar 3) (tC (.int 10)))) (tRet (tTup (tCons (tC (.str "while")) (tCons (tVar 7) (tCons (tK (spBody n) (tCons (tVar 0) (tCons (tOp (rI0 fun i j => V.int (i - j)) (tVar 1) (tC (.int 1))) (tCons (tVar 2) (tCons (tC (.int 2)) tNil))))) tNil))))) tNext)
      (tSeq (tAsg (tK (spBody n) (tCons (tVar 0) (tCons (tOp (rI0 fun i j => V.int (i - j)) (tVar 1) (tC (.int 1))) (tCons (tVar 2) (tCons (tC (.int 3)) tNil))))) (gName 8))
      (tRet (tTup (tCons (tC (.str "if")) (tCons (tVar 7) (tCons (tVar 8) (tCons (tK (spBody n) (tCons (tVar 0) (tCons (tOp (rI0 fun i j => V.int (i - j)) (tVar 1) (tC (.int 1))) (tCons (tVar 2) (tCons (tC (.int 3)) tNil))))) tNil))))))))
      { nx := fun _ H' => Q .non H', rt := Q } [some (.ref h), some (.int d), some (.ref ro), some (.int r), none, none, none, none, none] H1 := by
    refine ⟨_, rfl, _, rfl, h, sc, ro, s, p, 0, rfl, hR1, by decide, by omega, fun v H3 e kp3 hR3 he ho hs => ?_⟩
    have kB := kp1.r1.trans kp3
    refine ⟨_, rfl, rfl, _, rfl, ite2 (fun c => ?_) (fun c => ?_)⟩
    · refine ⟨_, rfl, _, rfl, _, rfl, _, _, rfl, rfl, _, rfl, h, sc, ro, d - 1, s, _, 2, rfl, hR3, by omega, by omega, by decide, by decide, s1, by omega, fun b H4 l xs kp4 hR4 et hl hol hc hp hb hlen => ⟨(by show 3 ≤ sizeLine; decide), fun t nt => ?_⟩⟩
      have kn := Kp.new (M := Mr h ro) (o := .tup [.str "while", v, .ref b]) nt
      refine k _ _ (.whl e l) (kB.trans (kp4.trans kn)) ?_ ?_ ?_ ?_ ?_ ?_
      · simp only [Sm.cnt, Sm.prt]
        rw [show s + 1 - ((1 + cnts l : Nat) : Int) = s - cnts l by omega, show p - ((e.sz + prts l : Nat) : Int) = p - e.sz - prts l by omega]
        exact hR4.new nt
      · unfold SmAt
        exact ⟨t, v, b, xs, rfl, upd_same, (he.kp kp4).kp kn, kn.tup _ _ et, BdAt.kp kn _ _ hl⟩
      · unfold Sm.ok
        exact ⟨ho, hol⟩
      · simp only [Sm.cnt]
        omega
      · simp only [Sm.prt]
        omega
      · simp only [Sm.bd]
        omega
    · refine ⟨_, rfl, _, rfl, _, _, rfl, rfl, _, rfl, h, sc, ro, d - 1, s, _, 3, rfl, hR3, by omega, by omega, by decide, by decide, s1, by omega, fun b H4 l xs kp4 hR4 et hl hol hc hp hb hlen => ?_⟩
      refine ⟨_, rfl, _, rfl, _, rfl, _, rfl, _, _, rfl, rfl, _, rfl, h, sc, ro, d - 1, _, _, 3, rfl, hR4, by omega, by omega, by decide, by decide, by omega, by omega, fun b2 H5 l2 ys kp5 hR5 et2 hl2 hol2 hc2 hp2 hb2 hlen2 => ⟨(by show 4 ≤ sizeLine; decide), fun t nt => ?_⟩⟩
      have kn := Kp.new (M := Mr h ro) (o := .tup [.str "if", v, .ref b, .ref b2]) nt
      refine k _ _ (.ite e l l2) (kB.trans (kp4.trans (kp5.trans kn))) ?_ ?_ ?_ ?_ ?_ ?_
      · simp only [Sm.cnt, Sm.prt]
        rw [show s + 1 - ((1 + (cnts l + cnts l2) : Nat) : Int) = s - cnts l - cnts l2 by omega, show p - ((e.sz + (prts l + prts l2) : Nat) : Int) = p - e.sz - prts l - prts l2 by omega]
        exact hR5.new nt
      · unfold SmAt
        exact ⟨t, v, b, b2, xs, ys, rfl, upd_same, ((he.kp kp4).kp kp5).kp kn, kn.tup _ _ (kp5.tup _ _ et), BdAt.kp kn _ _ (BdAt.kp kp5 _ _ hl), kn.tup _ _ et2, BdAt.kp kn _ _ hl2⟩
      · unfold Sm.ok
        exact ⟨ho, hol, hol2⟩
      · simp only [Sm.cnt]
        omega
      · simp only [Sm.prt]
        omega
      · simp only [Sm.bd]
        omega
  refine ⟨_, rfl, rfl, _, rfl, ite2 (fun c6 => ?_) (fun c6 => ?_)⟩
  · refine ⟨_, rfl, ro, _, 0, _, rfl, rfl, SqL.of hR1.at_, rfl, _, _, rfl, rfl, _, rfl, ite2 (fun c7 => ?_) (fun c7 => ?_)⟩
    · refine ⟨_, rfl, ro, _, 1, _, rfl, rfl, SqL.of hR1.at_, rfl, _, _, rfl, rfl, _, rfl, ite2 (fun c8 => ?_) (fun c8 => ?_)⟩
      · have c7' : (1 : Int) ≤ s := of_decide_eq_true c7
        have c8' : (6 : Int) ≤ p := of_decide_eq_true c8
        exact ⟨_, rfl, _, rfl, _, rfl, h, sc, ro, d, s, p, rfl, hR1, by omega, d2, c7', c8', fun v H' x kp => k v H' x (kp1.r1.trans kp)⟩
      · exact rest
    · exact iteF rest
  · exact iteF rest
theorem scl_body : FnScope ["_law_hand_here", "_law_deep", "_law_rooms", "_law_most", "_law_found", "_law_k"] ["_law_hand_here", "_law_deep", "_law_rooms", "_law_most"] (defScope sl_body) := ⟨rfl, rfl, rfl, by decide +kernel, rfl, by decide +kernel, by decide +kernel⟩
theorem ok_l_body1 {n : Nat} (S : Cal P w K mg base "_law_statement" (29 + 4 * n) ["_law_hand_here", "_law_deep", "_law_rooms"] (spStm n)) (T : Tx w K mg) : Cal P w K mg base "_law_body" (29+4*n+1) ["_law_hand_here", "_law_deep", "_law_rooms", "_law_most"] (spBody n) := by
  obtain ⟨fd, F⟩ : ∃ fd, Fun K "_law_body" "_law_body" sl_body 865 fd := T.fn 83 _ rfl
  refine T.cal F 142 rfl (fun _ _ _ _ _ _ us hl => match us, hl with | [_, _, _, _], _ => rfl) ?_
  refine F.ok scl_body (fun vs H Q E h => ?_) (fun cdv A outer s H vs Q E hr h => ?_)
  · obtain ⟨h, sc, ro, d, s, p, most, rfl, _⟩ := h
    rfl
  obtain ⟨h, sc, ro, d, s, p, most, rfl, hR, d1, d2, m1, m2, s1, p1, k⟩ := h
  refine ⟨_, (pss_cons (ps_set (i := 4) scl_body.nd rfl (Or.inl rfl) (pe_lst pa_nil))
    (pss_cons (ps_for PassesOwn.never rfl (pi_range1 rfl (fr_range T) (pa_cons (pe_k (ok_l_take T) (hr.mono (by omega)) (pa_cons (pv 0) (pa_cons (pe_op op_add (pv 3) pe_int) pa_nil))) pa_nil)) (pg_name (i := 5) scl_body.nd rfl (Or.inl rfl))
      (pss_one (ps_if (PW.pt (pw_and (pt_cmpR op_ge (pe_ix ix_list (pv 2) pe_int (fun _ _ => rfl)) pe_int (nomark _)) (pw_and1 (pt_cmpR op_ge (pe_ix ix_list (pv 2) pe_int (fun _ _ => rfl)) pe_int (nomark _))))) (pss_cons (ps_asg (pe_op op_sub (pe_ix ix_list (pv 2) pe_int (fun _ _ => rfl)) pe_int) (pg_sub (pv 2) pe_int set_list))
    (pss_one (ps_expr (pe_bm PySem.F.plainAttrs_list PySem.F.slot_list_append PySem.F.type_list_append mt_append (pv 4) (pa_cons (pe_k S (hr.mono (by omega)) (pa_cons (pv 0) (pa_cons (pv 1) (pa_cons (pv 2) pa_nil)))) pa_nil))))) pss_nil)))
    (pss_one (ps_ret (pe_callTy call_tuple_of rfl (fr_tuple T) (by decide +kernel) (pa_cons (pv 4) pa_nil)))))), ?_⟩
  refine ⟨(by show 0 ≤ sizeLine; decide), fun fl nf => ?_⟩
  have hR1 := hR.new (o := .lst []) nf
  have kA : Kp (Mr h ro) H (upd H fl (.lst [])) := Kp.new nf
  have eF : (upd H fl (.lst [])) fl = some (.lst []) := upd_same
  have nn := hR.neH nf
  generalize upd H fl (.lst []) = H1 at hR1 kA eF
  refine ⟨_, rfl, _, rfl, _, _, rfl, rfl, h, sc, _, rfl, hR1.hd, by omega, by omega, fun r H2 kp2 hh2 a b => ?_⟩
  have hR2 := hR1.hand kp2 hh2
  refine ⟨r, rfl, by omega, by omega, for_range (lo := 0) (n := r.toNat)
    (fun i σ' H' => ∃ (k1 : Option V) (l : List Sm) (xs : List V), σ' = [some (.ref h), some (.int d), some (.ref ro), some (.int most), some (.ref fl), k1] ∧ Kp (Mr h ro) H H' ∧ HR H' h sc ro (s - cnts l) (p - prts l) ∧ H' fl = some (.lst xs) ∧ BdAt H' l xs ∧ oks l ∧ (cnts l : Int) ≤ s ∧ (prts l : Int) ≤ p ∧ (bds l : Int) ≤ d ∧ l.length ≤ i) ?_ ?_ ?_⟩
  · refine ⟨none, [], [], rfl, kA.trans kp2.r1, ?_, kp2.keep _ _ eF nn.1, rfl, ?_, ?_, ?_, ?_, Nat.le_refl _⟩
    · simp only [cnts, prts]
      rw [show s - ((0 : Nat) : Int) = s by omega, show p - ((0 : Nat) : Int) = p by omega]
      exact hR2
    · unfold oks
      trivial
    · simp only [cnts]
      omega
    · simp only [prts]
      omega
    · simp only [bds]
      omega
  · rintro i σ' H3 hi ⟨k1, l, xs, rfl, kp3, hR3, e3, hl, hol, hc, hp, hb, hln⟩
    have skip : ∃ (k2 : Option V) (l' : List Sm) (xs' : List V), [some (.ref h), some (.int d), some (.ref ro), some (.int most), some (.ref fl), some (.int (0 + (i : Int)))] = [some (.ref h), some (.int d), some (.ref ro), some (.int most), some (.ref fl), k2] ∧ Kp (Mr h ro) H H3 ∧ HR H3 h sc ro (s - cnts l') (p - prts l') ∧ H3 fl = some (.lst xs') ∧ BdAt H3 l' xs' ∧ oks l' ∧ (cnts l' : Int) ≤ s ∧ (prts l' : Int) ≤ p ∧ (bds l' : Int) ≤ d ∧ l'.length ≤ i + 1 :=
      ⟨_, l, xs, rfl, kp3, hR3, e3, hl, hol, hc, hp, hb, by omega⟩
    refine ⟨_, rfl, ro, _, 0, _, rfl, rfl, SqL.of hR3.at_, rfl, _, _, rfl, rfl, _, rfl, ite2 (fun c1 => ?_) (fun c1 => ?_)⟩
    · refine ⟨_, rfl, ro, _, 1, _, rfl, rfl, SqL.of hR3.at_, rfl, _, _, rfl, rfl, _, rfl, ite2 (fun c2 => ?_) (fun c2 => ?_)⟩
      · have c1' : (1 : Int) ≤ s - cnts l := of_decide_eq_true c1
        have c2' : (3 : Int) ≤ p - prts l := of_decide_eq_true c2
        refine ⟨_, rfl, ro, _, 0, _, rfl, rfl, SqL.of hR3.at_, rfl, _, _, rfl, rfl, _, rfl, ro, _, 0, 0, rfl, rfl, hR3.at_, rfl, ?_⟩
        have hR4 : HR (upd H3 ro (rm2 (s - cnts l - 1) (p - prts l))) h sc ro (s - cnts l - 1) (p - prts l) := hR3.put
        have kp4 : Kp (Mr h ro) H (upd H3 ro (rm2 (s - cnts l - 1) (p - prts l))) := kp3.putR hR3 ⟨_, _, hR.at_⟩
        have kq : Kp (Mr h ro) H3 (upd H3 ro (rm2 (s - cnts l - 1) (p - prts l))) := Kp.rfl.putR hR3 ⟨_, _, hR3.at_⟩
        have e4 : (upd H3 ro (rm2 (s - cnts l - 1) (p - prts l))) fl = some (.lst xs) := by
          rw [upd_ne nn.2.2]
          exact e3
        refine ⟨_, rfl, .inl ⟨rfl, _, SqL.of e4⟩, _, rfl, _, rfl, _, rfl, h, sc, ro, d, _, _, rfl, hR4, d1, d2, by omega, c2', fun v H5 x kp5 hR5 hx hok hxc hxp hxb => ?_⟩
        have e5 : H5 fl = some (.lst xs) := kp5.keep _ _ e4 (fun z => z.elim nn.1 nn.2.2)
        have l1 := hl.len
        refine ⟨fl, xs, v, rfl, rfl, e5, Nat.lt_of_le_of_lt (show xs.length ≤ 1000 by omega) (by decide), _, l ++ [x], xs ++ [v], rfl, ?_, ?_, upd_same, ?_, oks_snoc _ _ hol hok, ?_, ?_, ?_, ?_⟩
        · have kz := kp4.trans kp5
          exact kz.priv nf
        · rw [cnts_snoc, prts_snoc]
          have z := hR5.keep (M := fun a => a = fl) (H1 := upd H5 fl (.lst (xs ++ [v]))) (Kp.rfl.set rfl (not_tup e5 trivial)) (fun q => nn.1 q.symm) (fun q => nn.2.1 q.symm) (fun q => nn.2.2 q.symm)
          rw [show s - ((cnts l + x.cnt : Nat) : Int) = s - cnts l - 1 + 1 - x.cnt by omega, show p - ((prts l + x.prt : Nat) : Int) = p - prts l - x.prt by omega]
          exact z
        · have kw : Kp (fun a => a = fl) H5 (upd H5 fl (.lst (xs ++ [v]))) := Kp.rfl.set rfl (not_tup e5 trivial)
          exact (BdAt.kp kw _ _ (BdAt.kp kp5 _ _ (BdAt.kp kq _ _ hl))).snoc (SmAt.kp kw _ _ hx)
        · rw [cnts_snoc]
          omega
        · rw [prts_snoc]
          omega
        · rw [bds_snoc]
          omega
        · rw [List.length_append]
          show l.length + 1 ≤ i + 1
          omega
      · exact skip
    · exact iteF skip
  · rintro σ' H3 ⟨k1, l, xs, rfl, kp3, hR3, e3, hl, hol, hc, hp, hb, hln⟩
    refine ⟨_, rfl, fl, _, rfl, .inl ⟨SqL.of e3, fun t nt => ?_⟩⟩
    exact k t _ l xs (kp3.trans (Kp.new nt)) (hR3.new nt) upd_same (BdAt.kp (Kp.new (M := M0) nt) _ _ hl) hol hc hp hb (by omega)
theorem ok_l_statement0 (T : Tx w K mg) : Cal P w K mg base "_law_statement" 29 ["_law_hand_here", "_law_deep", "_law_rooms"] (spStm 0) := by
  obtain ⟨fd, F⟩ : ∃ fd, Fun K "_law_statement" "_law_statement" sl_statement 858 fd := T.fn 82 _ rfl
  exact T.cal F 141 rfl (fun _ _ _ _ _ _ us hl => match us, hl with | [_, _, _], _ => rfl) (fnok_none fun vs H Q E h => by
    obtain ⟨_, _, _, d, _, _, _, _, d1, d2, _⟩ := h
    have : d ≤ 0 := d2
    omega)
theorem ok_l_body (T : Tx w K mg) : ∀ n : Nat, Cal P w K mg base "_law_body" (30 + 4 * n) ["_law_hand_here", "_law_deep", "_law_rooms", "_law_most"] (spBody n)
  | 0 => (ok_l_body1 (ok_l_statement0 T) T).mono (by decide)
  | n + 1 => by
    have B := ok_l_body T n
    have S := ok_l_statement1 B (ok_l_counted1 B T) T
    exact (ok_l_body1 (S.mono (by omega)) T).mono (by omega)
end
end G
set_option Elab.async false
set_option linter.all false
set_option maxRecDepth 100000
set_option maxHeartbeats 4000000
namespace G
open PySem PySem.Spec PyProof.Rows L2
def HdOk (l : List Sm) : Prop := oks l ∧ cnts l ≤ 50 ∧ prts l ≤ 400 ∧ bds l ≤ 5 ∧ l.length ≤ 1000
def spHandler : Sp := fun vs H Q _ => ∃ (h sc : Addr), vs = [.ref h] ∧ Hand H h sc ∧ Gn h sc H Q fun v H' => ∃ t l xs, v = .ref t ∧ H' t = some (.tup xs) ∧ BdAt H' l xs ∧ HdOk l
inductive Ev where
  | wall | tick | touch
  deriving DecidableEq
def Ev.str : Ev → Str
  | .wall => "wall" | .tick => "tick" | .touch => "touch"
theorem Ev.inj {a b : Ev} (h : a.str = b.str) : a = b := by
  cases a <;> cases b <;> first | rfl | (exfalso; revert h; decide +kernel)
abbrev Hs : Type := Ev → Option (List Sm)
def HvAt (H : Hp) : Option (List Sm) → Option V → Prop
  | none, o => o = none
  | some l, o => ∃ t xs, o = some (.ref t) ∧ H t = some (.tup xs) ∧ BdAt H l xs ∧ HdOk l
def HsAt (H : Hp) (d : Addr) (hs : Hs) : Prop := ∃ kvs : List (Key × V), H d = some (.dK kvs) ∧ kvs.length ≤ 3 ∧ (∀ p ∈ kvs, ∃ e : Ev, p.1 = Sum.inr e.str) ∧ ∀ e : Ev, HvAt H (hs e) (valV kvs (Sum.inr e.str))
theorem HvAt.kp {M : Addr → Prop} {H H' : Hp} (k : Kp M H H') {o : Option (List Sm)} {v : Option V} (h : HvAt H o v) : HvAt H' o v := by
  cases o with
  | none => exact h
  | some l =>
    obtain ⟨t, xs, h1, h2, h3, h4⟩ := h
    exact ⟨t, xs, h1, k.tup _ _ h2, BdAt.kp k _ _ h3, h4⟩
theorem HsAt.kp {M : Addr → Prop} {H H' : Hp} (k : Kp M H H') {d : Addr} {hs : Hs} (h : HsAt H d hs) (n : ¬ M d) : HsAt H' d hs := by
  obtain ⟨kvs, h1, h2, h3, h4⟩ := h
  exact ⟨kvs, k.keep _ _ h1 n, h2, h3, fun e => (h4 e).kp k⟩
structure Kd where
  wd : Int
  hg : Int
  hs : Option Hs
def HoAt (H : Hp) : Option Hs → V → Prop
  | none, v => v = .non
  | some f, v => ∃ d, v = .ref d ∧ HsAt H d f
def KdAt (H : Hp) (v : V) (k : Kd) : Prop := (1 ≤ k.wd ∧ k.wd ≤ 8 ∧ 1 ≤ k.hg ∧ k.hg ≤ 8) ∧ ∃ t hv, v = .ref t ∧ H t = some (.tup [.int k.wd, .int k.hg, .bl false, .int 0, hv]) ∧ HoAt H k.hs hv
def KsAt (H : Hp) (a : Addr) (ks : List Kd) : Prop := ∃ vs, H a = some (.lst vs) ∧ All2 (KdAt H) vs ks ∧ 1 ≤ ks.length ∧ ks.length ≤ 8
/-- what lists and hands may be changed: no dict -/
def NoD (M : Addr → Prop) (H : Hp) : Prop := ∀ a kvs, H a = some (.dK kvs) → ¬ M a
theorem HoAt.kp {M : Addr → Prop} {H H' : Hp} (k : Kp M H H') (nd : NoD M H) {o : Option Hs} {v : V} (h : HoAt H o v) : HoAt H' o v := by
  cases o with
  | none => exact h
  | some f =>
    obtain ⟨d, e, h1⟩ := h
    exact ⟨d, e, h1.kp k (by obtain ⟨kvs, h2, _⟩ := h1; exact nd d kvs h2)⟩
theorem KdAt.kp {M : Addr → Prop} {H H' : Hp} (k : Kp M H H') (nd : NoD M H) {v : V} {x : Kd} (h : KdAt H v x) : KdAt H' v x := by
  obtain ⟨h0, t, hv, h1, h2, h3⟩ := h
  exact ⟨h0, t, hv, h1, k.tup _ _ h2, h3.kp k nd⟩
theorem KsAt.kp {M : Addr → Prop} {H H' : Hp} (k : Kp M H H') (nd : NoD M H) {a : Addr} {ks : List Kd} (h : KsAt H a ks) (n : ¬ M a) : KsAt H' a ks := by
  obtain ⟨vs, h1, h2, h3⟩ := h
  exact ⟨vs, k.keep _ _ h1 n, h2.mono fun v x q => q.kp k nd, h3⟩
theorem Hand.noD {H : Hp} {h sc : Addr} (x : Hand H h sc) : NoD (Mh h) H := fun a kvs e z => by
  obtain ⟨xs, q⟩ := x.ls
  rw [z, q] at e
  cases e
theorem noD0 {H : Hp} : NoD M0 H := fun _ _ _ z => z
theorem KsAt.ne {H : Hp} {a h sc : Addr} {ks : List Kd} (x : KsAt H a ks) (y : Hand H h sc) : a ≠ h := fun z => by
  obtain ⟨vs, h1, h2, h3, _⟩ := x
  obtain ⟨⟨ns, i, big, st, cnt, e1, _⟩, _⟩ := y
  rw [z, e1] at h1
  cases h1
  obtain ⟨kd, _, _, t, hv, e, _⟩ := h2.getL (i := 1) (a := .int i) rfl
  cases e
theorem KsAt.neS {H : Hp} {a h sc : Addr} {ks : List Kd} (x : KsAt H a ks) (y : Hand H h sc) : a ≠ sc := fun z => by
  obtain ⟨vs, h1, h2, h3, _⟩ := x
  obtain ⟨⟨ns, i, big, st, cnt, _, e1, _⟩, _⟩ := y
  rw [z, e1] at h1
  cases h1
  cases ns with
  | nil => rw [← h2.len] at h3; exact absurd h3 (by decide)
  | cons n r =>
    obtain ⟨kd, _, _, t, hv, e, _⟩ := h2.getL (i := 0) (a := .int n) rfl
    cases e
def spHandlers : Sp := fun vs H Q _ => ∃ (h sc : Addr), vs = [.ref h] ∧ Hand H h sc ∧ Gn h sc H Q fun v H' => ∃ o, HoAt H' o v
def spPlainKinds : Sp := fun vs H Q _ => ∃ (h sc : Addr), vs = [.ref h] ∧ Hand H h sc ∧ Gn h sc H Q fun v H' => ∃ a ks, v = .ref a ∧ KsAt H' a ks
def spScripted : Sp := fun vs H Q _ => ∃ (h sc a : Addr) (ks : List Kd), vs = [.ref h, .ref a] ∧ Hand H h sc ∧ KsAt H a ks ∧ Gn h sc H Q fun v H' => ∃ b ks', v = .ref b ∧ KsAt H' b ks'
section
variable {P : Program} {w : World} {K : PySem.W.Frag} {mg : Str → Option Value} {base : Heap}
theorem scl_handler : FnScope ["_law_hand_here", "_law_way"] ["_law_hand_here"] (defScope sl_handler) := ⟨rfl, rfl, rfl, by decide +kernel, rfl, by decide +kernel, by decide +kernel⟩
theorem ok_l_handler (T : Tx w K mg) : Cal P w K mg base "_law_handler" 51 ["_law_hand_here"] spHandler := by
  obtain ⟨fd, F⟩ : ∃ fd, Fun K "_law_handler" "_law_handler" sl_handler 872 fd := T.fn 84 _ rfl
  refine T.cal F 143 rfl (fun _ _ _ _ _ _ us hl => match us, hl with | [_], _ => rfl) ?_
  refine F.ok scl_handler (fun vs H Q E h => ?_) (fun cdv A outer s H vs Q E hr h => ?_)
  · obtain ⟨h, sc, rfl, _⟩ := h
    rfl
  obtain ⟨h, sc, rfl, hH, k⟩ := h
  refine ⟨_, (pss_cons (ps_set (i := 1) scl_handler.nd rfl (Or.inl rfl) (pe_k (ok_l_take T) (hr.mono (by decide)) (pa_cons (pv 0) (pa_cons pe_int pa_nil))))
    (pss_cons (ps_if (pt_cmpR op_eq (pv 1) pe_int (nomark _)) (pss_one (ps_ret (pe_k (ok_l_body T 5) (hr.mono (by decide)) (pa_cons (pv 0) (pa_cons pe_int (pa_cons (pe_lst (pa_cons pe_int (pa_cons pe_int pa_nil))) (pa_cons pe_int pa_nil))))))) pss_nil)
    (pss_cons (ps_if (pt_cmpR op_eq (pv 1) pe_int (nomark _)) (pss_one (ps_ret (pe_k (ok_l_body T 5) (hr.mono (by decide)) (pa_cons (pv 0) (pa_cons pe_int (pa_cons (pe_lst (pa_cons pe_int (pa_cons pe_int pa_nil))) (pa_cons pe_int pa_nil))))))) pss_nil)
    (pss_one (ps_ret (pe_k (ok_l_body T 5) (hr.mono (by decide)) (pa_cons (pv 0) (pa_cons pe_int (pa_cons (pe_lst (pa_cons pe_int (pa_cons pe_int pa_nil))) (pa_cons pe_int pa_nil)))))))))), ?_⟩
  refine ⟨_, rfl, h, sc, _, rfl, hH, by decide, by decide, fun r H1 kp1 hh1 a b => ?_⟩
  have go : ∀ (s p m : Int), 0 ≤ s → s ≤ 50 → 0 ≤ p → p ≤ 400 → 0 ≤ m → m ≤ 100 → ∀ ro, H1 ro = none →
      spBody 5 [.ref h, .int 5, .ref ro, .int m] (upd H1 ro (rm2 s p)) Q E0 := fun s p m s0 s1 p0 p1 m0 m1 ro nr => by
    refine ⟨h, sc, ro, 5, s, p, m, rfl, ⟨hh1.new nr, upd_same, (hh1.neH nr).1, (hh1.neH nr).2⟩, by decide, by decide, m0, m1, s0, p0, fun t H2 l xs kp2 hR2 et hl ho hc hp hb hn => ?_⟩
    have H0r : H ro = none := by
      cases z : H ro with
      | none => rfl
      | some o => rw [kp1.keep ro o z (hh1.neH nr).1] at nr; cases nr
    refine k _ _ (kp1.then ((Kp.new (M := M0) nr |>.weak fun _ z => z.elim).trans kp2) fun a z => z.elim .inl fun q => .inr (by rw [q]; exact H0r)) hR2.hd ⟨t, l, xs, rfl, et, hl, ho, by omega, by omega, by omega, hn⟩
  refine ⟨_, rfl, rfl, _, rfl, ite2 (fun c => ?_) (fun c => ?_)⟩
  · exact ⟨_, rfl, (by show 2 ≤ sizeLine; decide), fun ro nr => go 50 400 9 (by decide) (by decide) (by decide) (by decide) (by decide) (by decide) ro nr⟩
  refine ⟨_, rfl, rfl, _, rfl, ite2 (fun c => ?_) (fun c => ?_)⟩
  · exact ⟨_, rfl, (by show 2 ≤ sizeLine; decide), fun ro nr => go 50 120 4 (by decide) (by decide) (by decide) (by decide) (by decide) (by decide) ro nr⟩
  · exact ⟨_, rfl, (by show 2 ≤ sizeLine; decide), fun ro nr => go 12 50 4 (by decide) (by decide) (by decide) (by decide) (by decide) (by decide) ro nr⟩
theorem scl_handlers : FnScope ["_law_hand_here", "_law_found", "_law_word_here"] ["_law_hand_here"] (defScope sl_handlers) := ⟨rfl, rfl, rfl, by decide +kernel, rfl, by decide +kernel, by decide +kernel⟩
theorem ok_l_handlers (T : Tx w K mg) : Cal P w K mg base "_law_handlers" 52 ["_law_hand_here"] spHandlers := by
  obtain ⟨fd, F⟩ : ∃ fd, Fun K "_law_handlers" "_law_handlers" sl_handlers 879 fd := T.fn 85 _ rfl
  refine T.cal F 144 rfl (fun _ _ _ _ _ _ us hl => match us, hl with | [_], _ => rfl) ?_
  refine F.ok scl_handlers (fun vs H Q E h => ?_) (fun cdv A outer s H vs Q E hr h => ?_)
  · obtain ⟨h, sc, rfl, _⟩ := h
    rfl
  obtain ⟨h, sc, rfl, hH, k⟩ := h
  have hu := hu_of hr
  refine ⟨_, (pss_cons (ps_if (pt_cmpR op_eq (pe_k (ok_l_take T) (hr.mono (by decide)) (pa_cons (pv 0) (pa_cons pe_int pa_nil))) pe_int (nomark _)) (pss_one (ps_ret pe_non)) pss_nil)
    (pss_cons (ps_set (i := 1) scl_handlers.nd rfl (Or.inl rfl) pe_dnewK)
    (pss_cons (ps_for PassesOwn.never rfl (pi_list (pe_lst (pa_cons pe_str (pa_cons pe_str (pa_cons pe_str pa_nil))))) (pg_name (i := 2) scl_handlers.nd rfl (Or.inl rfl))
      (pss_one (ps_if (pt_cmpR op_gt (pe_k (ok_l_take T) (hr.mono (by decide)) (pa_cons (pv 0) (pa_cons pe_int pa_nil))) pe_int (nomark _)) (pss_one (ps_dput hu (pv 1) (pv 2) (pe_k (ok_l_handler T) (hr.mono (by decide)) (pa_cons (pv 0) pa_nil)) rfl)) pss_nil)))
    (pss_one (ps_ret (pv 1)))))), ?_⟩
  refine ⟨_, rfl, h, sc, _, rfl, hH, by decide, by decide, fun r H1 kp1 hh1 a b => ?_⟩
  refine ⟨rfl, _, rfl, ite2 (fun c => ?_) (fun c => ?_)⟩
  · exact k _ _ kp1 hh1 ⟨none, rfl⟩
  intro d nd
  have H0d : H d = none := by
    cases z : H d with
    | none => rfl
    | some o => rw [kp1.keep d o z (hh1.neH nd).1] at nd; cases nd
  refine ⟨(by show 3 ≤ sizeLine; decide), fun l nl => ⟨l, rfl, ⟨_, SqL.of upd_same⟩, for_list (xs := [Ev.wall, .tick, .touch].map (fun e => V.str e.str))
    (fun i σ' H' => ∃ (k1 : Option V) (hs : Hs) (kvs : List (Key × V)), σ' = [some (.ref h), some (.ref d), k1] ∧ Kp (Mh h) H H' ∧ Hand H' h sc ∧ H' d = some (.dK kvs) ∧ kvs.length ≤ i ∧ (∀ p ∈ kvs, ∃ e : Ev, p.1 = Sum.inr e.str) ∧ (∀ e : Ev, HvAt H' (hs e) (valV kvs (Sum.inr e.str))) ∧ (∀ e : Ev, e ∉ [Ev.wall, .tick, .touch].take i → hs e = none) ∧ H' l = some (.lst ([Ev.wall, .tick, .touch].map (fun e => V.str e.str)))) ?_ ?_ ?_ ?_⟩⟩
  · have nl' : l ≠ d := (ne_of_none upd_same nl).symm
    refine ⟨none, fun _ => none, [], rfl, (kp1.priv H0d).trans (Kp.new nl), (hh1.new nd).new nl, ?_, Nat.le_refl _, fun p hp => absurd hp (by simp), fun e => rfl, fun _ _ => rfl, upd_same⟩
    rw [upd_ne nl'.symm, upd_same]
  · rintro i σ' H' _ ⟨_, _, _, _, _, _, _, _, _, _, _, e⟩
    exact SqL.of e
  · rintro i x σ' H2 hx ⟨k1, hs, kvs, rfl, kp2, hh2, ed, en, hk, hv, hn, el⟩
    obtain ⟨ev, hev, rfl⟩ : ∃ ev, [Ev.wall, .tick, .touch][i]? = some ev ∧ V.str ev.str = x := by
      rw [List.getElem?_map] at hx
      cases q : [Ev.wall, .tick, .touch][i]? with
      | none => rw [q] at hx; cases hx
      | some ev => rw [q] at hx; exact ⟨ev, rfl, Option.some.inj hx⟩
    have i3 : i < 3 := (List.getElem?_eq_some_iff.mp hev).1
    have notin : ev ∉ [Ev.wall, .tick, .touch].take i := by
      match i, i3, hev with
      | 0, _, h0 => cases h0; decide
      | 1, _, h0 => cases h0; decide
      | 2, _, h0 => cases h0; decide
    have sub : ∀ e : Ev, e ∉ [Ev.wall, .tick, .touch].take (i + 1) → e ∉ [Ev.wall, .tick, .touch].take i ∧ e ≠ ev := by
      match i, i3, hev with
      | 0, _, h0 => cases h0; intro e; cases e <;> decide
      | 1, _, h0 => cases h0; intro e; cases e <;> decide
      | 2, _, h0 => cases h0; intro e; cases e <;> decide
    refine ⟨_, rfl, h, sc, _, rfl, hh2, by decide, by decide, fun r2 H3 kp3 hh3 a3 b3 => ?_⟩
    have ed3 : H3 d = some (.dK kvs) := kp3.keep _ _ ed (fun z => by
      have z : d = h := z
      obtain ⟨xs, q⟩ := hh2.ls
      rw [z, q] at ed
      cases ed)
    have lh : l ≠ h := (Hand.neH (hh1.new (o := .dK []) nd) nl).1
    have el3 : H3 l = some (.lst ([Ev.wall, .tick, .touch].map (fun e => V.str e.str))) := kp3.keep _ _ el lh
    refine ⟨_, _, rfl, rfl, _, rfl, ite2 (fun c2 => ?_) (fun c2 => ?_)⟩
    · refine ⟨_, rfl, h, sc, rfl, hh3, fun v H4 kp4 hh4 ⟨t, l2, xs, ev4, et, hl, ho⟩ => ?_⟩
      subst ev4
      have dh : d ≠ h := fun z => by
        obtain ⟨xs, q⟩ := hh3.ls
        rw [z, q] at ed3
        cases ed3
      have ed4 : H4 d = some (.dK kvs) := kp4.keep _ _ ed3 dh
      have ds : d ≠ sc := (hh1.neH nd).2
      have ld : l ≠ d := ne_of el3 ed3 (by intro z; cases z)
      refine ⟨_, rfl, _, rfl, d, _, rfl, DPut.k (k := Sum.inr ev.str) ed4 (Nat.lt_of_le_of_lt (show kvs.length ≤ 100 by omega) (by decide)), ?_⟩
      have kw : Kp (fun a => a = d) H4 (upd H4 d (.dK (putK kvs (Sum.inr ev.str) (.ref t)))) := Kp.rfl.set rfl (not_tup ed4 trivial)
      refine ⟨_, fun e => if e = ev then some l2 else hs e, putK kvs (Sum.inr ev.str) (.ref t), rfl, (kp2.trans (kp3.trans kp4)).priv H0d, hh4.keep kw (fun z => dh z.symm) (fun z => ds z.symm), upd_same, ?_, ?_, ?_, ?_, ?_⟩
      · have := length_putK kvs (Sum.inr ev.str : Key) (V.ref t)
        omega
      · intro p hp
        unfold putK at hp
        split at hp
        · obtain ⟨q, hq, e⟩ := List.mem_map.mp hp
          obtain ⟨e1, h1⟩ := hk q hq
          refine ⟨e1, ?_⟩
          rw [← e]
          split <;> exact h1
        · rcases List.mem_append.mp hp with z | z
          · exact hk p z
          · rw [List.mem_singleton.mp z]
            exact ⟨ev, rfl⟩
      · intro e
        show HvAt _ (if e = ev then some l2 else hs e) _
        rw [valV_put]
        by_cases z : e = ev
        · rw [if_pos z, if_pos (by rw [z])]
          exact ⟨t, xs, rfl, kw.tup _ _ et, BdAt.kp kw _ _ hl, ho⟩
        · rw [if_neg z, if_neg (fun q => z (Ev.inj (Sum.inr.inj q)))]
          exact (((hv e).kp kp3).kp kp4).kp kw
      · intro e he
        obtain ⟨h1, h2⟩ := sub e he
        show (if e = ev then some l2 else hs e) = none
        rw [if_neg h2]
        exact hn e h1
      · rw [upd_ne ld]
        exact kp4.keep _ _ el3 lh
    · exact ⟨_, hs, kvs, rfl, kp2.trans kp3, hh3, ed3, by omega, hk, fun e => (hv e).kp kp3, fun e he => hn e (sub e he).1, el3⟩
  · rintro σ' H2 ⟨k1, hs, kvs, rfl, kp2, hh2, ed, en, hk, hv, hn, el⟩
    exact ⟨_, rfl, k _ _ kp2 hh2 ⟨some hs, d, rfl, kvs, ed, en, hk, hv⟩⟩
theorem scl_plain_kinds : FnScope ["_law_hand_here", "_law_many", "_law_k"] ["_law_hand_here"] (defScope sl_plain_kinds) := ⟨rfl, rfl, rfl, by decide +kernel, rfl, by decide +kernel, by decide +kernel⟩
theorem ok_l_plain_kinds (T : Tx w K mg) : Cal P w K mg base "_law_plain_kinds" 3 ["_law_hand_here"] spPlainKinds := by
  obtain ⟨fd, F⟩ : ∃ fd, Fun K "_law_plain_kinds" "_law_plain_kinds" sl_plain_kinds 1025 fd := T.fn 107 _ rfl
  refine T.cal F 166 rfl (fun _ _ _ _ _ _ us hl => match us, hl with | [_], _ => rfl) ?_
  refine F.ok scl_plain_kinds (fun vs H Q E h => ?_) (fun cdv A outer s H vs Q E hr h => ?_)
  · obtain ⟨h, sc, rfl, _⟩ := h
    rfl
  obtain ⟨h, sc, rfl, hH, k⟩ := h
  refine ⟨_, (pss_cons (ps_set (i := 1) scl_plain_kinds.nd rfl (Or.inl rfl) (pe_k (ok_l_pick T) (hr.mono (by decide)) (pa_cons (pv 0) (pa_cons (pe_lst (pa_cons pe_int (pa_cons pe_int (pa_cons pe_int (pa_cons pe_int (pa_cons pe_int pa_nil)))))) pa_nil))))
    (pss_one (ps_ret (pe_lc (own := [("_law_k", 2)]) (g := gName 2) (by rfl) scl_plain_kinds.nd (pi_range1 rfl (fr_range T) (pa_cons (pv 1) pa_nil)) (blkOk_by (own := [("_law_k", 2)]) (N := ["_law_hand_here", "_law_many", "_law_k"]) (sc := defScope sl_plain_kinds) (by decide +kernel)) (fun _ _ _ _ _ => pg_name (i := 2) scl_plain_kinds.nd rfl (Or.inl rfl)) (fun _ _ _ _ _ => pts_nil) (fun _ _ _ _ _ => (pe_tup (pa_cons (pe_op op_add pe_int (pe_k (ok_l_take T) (hr.mono (by decide)) (pa_cons (pv 0) (pa_cons pe_int pa_nil)))) (pa_cons (pe_op op_add pe_int (pe_k (ok_l_take T) (hr.mono (by decide)) (pa_cons (pv 0) (pa_cons pe_int pa_nil)))) (pa_cons pe_bl (pa_cons pe_int (pa_cons pe_non pa_nil))))))))))), ?_⟩
  refine ⟨_, rfl, (by show 5 ≤ sizeLine; decide), fun p np => ?_⟩
  refine ⟨h, sc, p, _, rfl, hH.new np, SqL.of upd_same, (hH.neH np).1, by decide, by decide, fun v H2 kp3 hh2 q => ?_⟩
  have hv : ∃ m : Int, v = .int m ∧ 1 ≤ m ∧ m ≤ 8 := by
    simp only [List.mem_cons, List.not_mem_nil, or_false] at q
    rcases q with q | q | q | q | q <;> exact ⟨_, q, by decide⟩
  obtain ⟨m, rfl, m1, m2⟩ := hv
  have kp2 := (Kp.new (M := Mh h) np).trans kp3
  refine ⟨_, rfl, m, rfl, by omega, by omega, fun D nD => ?_⟩
  have H0D : H D = none := by
    cases z : H D with
    | none => rfl
    | some o => rw [kp2.keep D o z (hh2.neH nD).1] at nD; cases nD
  refine lc_range (lo := 0) (n := m.toNat) (fun j H' => Kp (Mh h) H H' ∧ Hand H' h sc ∧ ∃ (vs : List V) (ks : List Kd), H' D = some (.lst vs) ∧ All2 (KdAt H') vs ks ∧ ks.length = j) ?_ ?_ ?_
  · exact ⟨kp2.priv H0D, hh2.new nD, [], [], upd_same, trivial, rfl⟩
  · rintro j H3 hj ⟨kp4, hh3, vs, ks, eD, hK, el⟩
    refine ⟨rfl, _, rfl, h, sc, _, rfl, hh3, by decide, by decide, fun r H4 kp5 hh4 a b => ?_⟩
    refine ⟨_, _, rfl, rfl, _, rfl, h, sc, _, rfl, hh4, by decide, by decide, fun r2 H5 kp6 hh5 a2 b2 => ?_⟩
    refine ⟨_, _, rfl, rfl, (by show 5 ≤ sizeLine; decide), fun t nt => ?_⟩
    have dh : D ≠ h := (hh2.neH nD).1
    have kz := (kp5.trans kp6).trans (Kp.new (o := .tup [.int (1 + r), .int (1 + r2), .bl false, .int 0, .non]) nt)
    have eD5 := kz.keep _ _ eD dh
    have hh6 := hh5.new (o := .tup [.int (1 + r), .int (1 + r2), .bl false, .int 0, .non]) nt
    have kw : Kp (fun a => a = D) _ (upd (upd H5 t (.tup [.int (1 + r), .int (1 + r2), .bl false, .int 0, .non])) D (.lst (vs ++ [.ref t]))) := Kp.rfl.set rfl (not_tup eD5 trivial)
    have l1 := hK.len
    refine ⟨vs, eD5, Nat.lt_of_le_of_lt (show vs.length ≤ 100 by omega) (by decide), (kp4.trans kz).priv H0D, hh6.keep kw (fun z => dh z.symm) (fun z => (hh2.neH nD).2 z.symm), vs ++ [.ref t], ks ++ [⟨1 + r, 1 + r2, none⟩], upd_same, ?_, ?_⟩
    · refine All2.snoc (hK.mono fun v x q => (q.kp kz hh3.noD).kp kw ?_) ⟨⟨by show 1 ≤ 1 + r; omega, by show 1 + r ≤ 8; omega, by show 1 ≤ 1 + r2; omega, by show 1 + r2 ≤ 8; omega⟩, t, .non, rfl, kw.tup _ _ upd_same, rfl⟩
      intro a kvs e z
      rw [z, eD5] at e
      cases e
    · rw [List.length_append, el]
      rfl
  · rintro H3 ⟨kp4, hh3, vs, ks, eD, hK, el⟩
    exact k _ _ kp4 hh3 ⟨D, ks, rfl, vs, eD, hK, by omega, by omega⟩
end
end G
set_option Elab.async false
set_option linter.all false
set_option maxRecDepth 100000
set_option maxHeartbeats 4000000
namespace G
open PySem PySem.Spec PyProof.Rows L2
/-- a place free later was free before -/
theorem Hand.fr {H H1 : Hp} {h sc p : Addr} (x : Hand H1 h sc) (k : Kp (Mh h) H H1) (n : H1 p = none) : H p = none := by
  cases z : H p with
  | none => rfl
  | some o => rw [k.keep p o z (x.neH n).1] at n; cases n
theorem KdAt.tup {H : Hp} {v : V} {k : Kd} (x : KdAt H v k) : ∃ t hv, v = .ref t ∧ H t = some (.tup [.int k.wd, .int k.hg, .bl false, .int 0, hv]) := by
  obtain ⟨_, t, hv, h1, h2, _⟩ := x
  exact ⟨t, hv, h1, h2⟩
section
variable {P : Program} {w : World} {K : PySem.W.Frag} {mg : Str → Option Value} {base : Heap}
theorem scl_scripted : FnScope ["_law_hand_here", "_law_kinds", "_law_found", "_law_begin", "_law_k"] ["_law_hand_here", "_law_kinds"] (defScope sl_scripted) := ⟨rfl, rfl, rfl, by decide +kernel, rfl, by decide +kernel, by decide +kernel⟩
theorem ok_l_scripted (T : Tx w K mg) : Cal P w K mg base "_law_scripted" 53 ["_law_hand_here", "_law_kinds"] spScripted := by
  obtain ⟨fd, F⟩ : ∃ fd, Fun K "_law_scripted" "_law_scripted" sl_scripted 886 fd := T.fn 86 _ rfl
  refine T.cal F 145 rfl (fun _ _ _ _ _ _ us hl => match us, hl with | [_, _], _ => rfl) ?_
  refine F.ok scl_scripted (fun vs H Q E h => ?_) (fun cdv A outer s H vs Q E hr h => ?_)
  · obtain ⟨h, sc, a, ks, rfl, _⟩ := h
    rfl
  obtain ⟨h, sc, a, ks, rfl, hH, hK, k⟩ := h
  refine ⟨_, (pss_cons (ps_set (i := 2) scl_scripted.nd rfl (Or.inl rfl) (pe_callTy call_list_of rfl (fr_list T) (by decide +kernel) (pa_cons (pv 1) pa_nil)))
    (pss_cons (ps_set (i := 3) scl_scripted.nd rfl (Or.inl rfl) (pe_k (ok_l_take T) (hr.mono (by decide)) (pa_cons (pv 0) (pa_cons (pe_callB (call_max2 rfl) rfl (fr_max T) (by decide +kernel) (pa_cons pe_int (pa_cons (pe_op op_sub (pe_callB call_len_seq rfl (fr_len T) (by decide +kernel) (pa_cons (pv 1) pa_nil)) pe_int) pa_nil))) pa_nil))))
    (pss_cons (ps_for PassesOwn.never rfl (pi_range2 rfl (fr_range T) (pa_cons (pv 3) (pa_cons (pe_callB (call_min2 rfl) rfl (fr_min T) (by decide +kernel) (pa_cons (pe_callB call_len_seq rfl (fr_len T) (by decide +kernel) (pa_cons (pv 1) pa_nil)) (pa_cons (pe_op op_add (pv 3) pe_int) pa_nil))) pa_nil))) (pg_name (i := 4) scl_scripted.nd rfl (Or.inl rfl))
      (pss_one (ps_asg (pe_op op_catA (pe_slice sl_tupA (pe_ix ix_list (pv 1) (pv 4) (fun _ _ => rfl)) po_none (po_some pe_int)) (pe_tup (pa_cons (pe_k (ok_l_handlers T) (hr.mono (by decide)) (pa_cons (pv 0) pa_nil)) pa_nil))) (pg_sub (pv 2) (pv 4) set_list))))
    (pss_one (ps_ret (pv 2)))))), ?_⟩
  have ha : a ≠ h := hK.ne hH
  obtain ⟨vs, eA, hA, n1, n8⟩ := hK
  have hl := hA.len
  refine ⟨_, rfl, a, vs, rfl, .inl (SqL.of eA), fun l nl => ?_⟩
  have nlh := hH.neH nl
  have kA : Kp (Mh h) H (upd H l (.lst vs)) := Kp.new nl
  have hhA := hH.new (o := .lst vs) nl
  have eL : (upd H l (.lst vs)) l = some (.lst vs) := upd_same
  have la : l ≠ a := (ne_of_none eA nl).symm
  have hA1 : All2 (KdAt (upd H l (.lst vs))) vs ks := hA.mono fun v x q => q.kp (Kp.new (M := M0) nl) noD0
  have eA1 : (upd H l (.lst vs)) a = some (.lst vs) := kA.keep _ _ eA ha
  generalize upd H l (.lst vs) = H1 at kA hhA eL hA1 eA1
  refine ⟨_, rfl, _, rfl, a, vs, rfl, .inl (SqL.of eA1), _, _, rfl, rfl, _, _, rfl, h, sc, _, rfl, hhA, ?_, ?_, fun r H2 kp2 hh2 b0 b1 => ?_⟩
  · split <;> omega
  · split <;> omega
  have b2 : r < vs.length := by revert b1; split <;> omega
  have eL2 : H2 l = some (.lst vs) := kp2.keep _ _ eL nlh.1
  have eA2 : H2 a = some (.lst vs) := kp2.keep _ _ eA1 ha
  have hA2 : All2 (KdAt H2) vs ks := hA1.mono fun v x q => q.kp kp2 hhA.noD
  refine ⟨_, rfl, _, rfl, a, vs, rfl, .inl (SqL.of eA2), _, rfl, _, _, rfl, rfl, _, _, rfl, r, _, rfl, ⟨by omega, by omega, ?_, ?_⟩, ?_⟩
  · split <;> omega
  · split <;> omega
  have hm : ∃ m : Nat, m = (if r + 3 < (vs.length : Int) then r + 3 else (vs.length : Int)).toNat - r.toNat ∧ ((if r + 3 < (vs.length : Int) then r + 3 else (vs.length : Int)) - r).toNat = m ∧ r.toNat + m ≤ vs.length := by
    refine ⟨_, rfl, ?_, ?_⟩ <;> split <;> omega
  obtain ⟨m, _, em, m1⟩ := hm
  rw [em]
  refine for_range (fun i σ' H' => ∃ (k1 : Option V) (us : List V) (ks' : List Kd), σ' = [some (.ref h), some (.ref a), some (.ref l), some (.int r), k1] ∧ Kp (Mh h) H H' ∧ Hand H' h sc ∧ H' l = some (.lst us) ∧ H' a = some (.lst vs) ∧ All2 (KdAt H') us ks' ∧ All2 (KdAt H') vs ks ∧ us.length = vs.length) ?_ ?_ ?_
  · exact ⟨none, vs, ks, rfl, kA.trans kp2, hh2, eL2, eA2, hA2, hA2, rfl⟩
  · rintro i σ' H3 hi ⟨k1, us, ks', rfl, kp3, hh3, e3, ea3, hU, hV, hln⟩
    obtain ⟨v, ev⟩ : ∃ v, vs[r.toNat + i]? = some v := ⟨vs[r.toNat + i], List.getElem?_eq_getElem (by omega)⟩
    have eI : r + (i : Int) = ((r.toNat + i : Nat) : Int) := by omega
    obtain ⟨kd, ekd, ⟨g1, t, hv, rfl, et, ho⟩⟩ := hV.getL ev
    refine ⟨_, rfl, _, rfl, a, _, _, _, rfl, rfl, SqL.of ea3, atI_of eI ev, 4, rfl, t, _, rfl, SqT.of et, fun q => absurd q.2 (by show ¬ (4 : Nat) = 5; decide), fun _ p np => ?_⟩
    have np3 := hh3.neH np
    have kpP : Kp (Mh h) H3 (upd H3 p (.tup (cutV [.int kd.wd, .int kd.hg, .bl false, .int 0, hv] none (some 4)))) := Kp.new np
    have hhP := hh3.new (o := .tup (cutV [.int kd.wd, .int kd.hg, .bl false, .int 0, hv] none (some 4))) np
    refine ⟨_, rfl, h, sc, rfl, hhP, fun u H4 kp4 hh4 ⟨o, hu4⟩ => ⟨(by show 1 ≤ sizeLine; decide), fun q nq => ?_⟩⟩
    have kpQ : Kp (Mh h) H4 (upd H4 q (.tup [u])) := Kp.new nq
    have hhQ := hh4.new (o := .tup [u]) nq
    have eP : (upd H4 q (.tup [u])) p = some (.tup [.int kd.wd, .int kd.hg, .bl false, .int 0]) := kpQ.tup _ _ (kp4.tup _ _ (upd_same : _ = some (.tup (cutV [.int kd.wd, .int kd.hg, .bl false, .int 0, hv] none (some 4)))))
    refine ⟨p, q, _, _, rfl, rfl, SqT.of eP, SqT.of upd_same, (by show 5 ≤ sizeLine; decide), fun z => (by cases z), fun _ z => (by cases z), fun _ _ s5 n5 => ?_⟩
    have kpS : Kp (Mh h) (upd H4 q (.tup [u])) (upd (upd H4 q (.tup [u])) s5 (.tup ([.int kd.wd, .int kd.hg, .bl false, .int 0] ++ [u]))) := Kp.new n5
    have kz := kpP.trans (kp4.trans (kpQ.trans kpS))
    have hhS := hhQ.new (o := .tup ([.int kd.wd, .int kd.hg, .bl false, .int 0] ++ [u])) n5
    have lh : l ≠ h := nlh.1
    have eLS := kz.keep _ _ e3 lh
    refine ⟨_, rfl, _, rfl, l, us, _, r.toNat + i, rfl, rfl, eLS, ?_, ?_⟩
    · rw [eI]
      unfold ixN
      rw [if_pos (by omega), if_pos (by omega), Int.toNat_natCast]
    · have kw : Kp (fun b => b = l) (upd (upd H4 q (.tup [u])) s5 (.tup ([.int kd.wd, .int kd.hg, .bl false, .int 0] ++ [u]))) (upd (upd (upd H4 q (.tup [u])) s5 (.tup ([.int kd.wd, .int kd.hg, .bl false, .int 0] ++ [u]))) l (.lst (us.set (r.toNat + i) (.ref s5)))) := Kp.rfl.set rfl (not_tup eLS trivial)
      have nd : NoD (fun b => b = l) (upd (upd H4 q (.tup [u])) s5 (.tup ([.int kd.wd, .int kd.hg, .bl false, .int 0] ++ [u]))) := fun b kvs e z => by
        rw [z, eLS] at e
        cases e
      have ll : l ≠ sc := nlh.2
      refine ⟨_, us.set (r.toNat + i) (.ref s5), ks'.set (r.toNat + i) ⟨kd.wd, kd.hg, o⟩, rfl, (kp3.trans kz).priv nl, hhS.keep kw (fun z => lh z.symm) (fun z => ll z.symm), upd_same, ?_, All2.set ?_ _ (hU.mono fun v x q => (q.kp kz hh3.noD).kp kw nd), hV.mono fun v x q => (q.kp kz hh3.noD).kp kw nd, by rw [List.length_set]; exact hln⟩
      · rw [upd_ne la.symm]
        exact kz.keep _ _ ea3 ha
      · refine ⟨g1, s5, u, rfl, kw.tup _ _ upd_same, ?_⟩
        exact ((hu4.kp kpQ hh4.noD).kp kpS hhQ.noD).kp kw nd
  · rintro σ' H3 ⟨k1, us, ks', rfl, kp3, hh3, e3, ea3, hU, hV, hln⟩
    exact ⟨_, rfl, k _ _ kp3 hh3 ⟨l, ks', rfl, us, e3, hU, by rw [← hU.len]; omega, by rw [← hU.len]; omega⟩⟩
end
end G
set_option Elab.async false
set_option linter.all false
set_option maxRecDepth 100000
set_option maxHeartbeats 4000000
namespace G
open PySem PySem.Spec PyProof.Rows L2
/-- a place on the ground, as a pair -/
def PrAt (H : Hp) (v : V) (p : Int × Int) : Prop := (0 ≤ p.1 ∧ p.1 ≤ 96 ∧ 0 ≤ p.2 ∧ p.2 ≤ 96) ∧ ∃ t, v = .ref t ∧ H t = some (.tup [.int p.1, .int p.2])
theorem PrAt.kp {M : Addr → Prop} {H H' : Hp} (k : Kp M H H') {v : V} {p : Int × Int} (h : PrAt H v p) : PrAt H' v p := by
  obtain ⟨h0, t, h1, h2⟩ := h
  exact ⟨h0, t, h1, k.tup _ _ h2⟩
def FrAt (H : Hp) (l : Addr) (ps : List (Int × Int)) : Prop := ∃ vs, H l = some (.lst vs) ∧ All2 (PrAt H) vs ps ∧ ps.length ≤ 144
def spFree : Sp := fun vs H Q _ => ∃ (v : V) (rows : List (List Nat)) (wd : Nat), vs = [v] ∧ RowsAt H v rows ∧ RowsOk rows wd ∧ ∀ l H' ps, Kp M0 H H' → FrAt H' l ps → Q (.ref l) H'
theorem All2.app {α β : Type} {R : α → β → Prop} : ∀ {l l2 : List α} {r r2 : List β}, All2 R l r → All2 R l2 r2 → All2 R (l ++ l2) (r ++ r2)
  | [], _, [], _, _, h => h
  | _ :: _, _, _ :: _, _, h, g => ⟨h.1, All2.app h.2 g⟩
section
variable {P : Program} {w : World} {K : PySem.W.Frag} {mg : Str → Option Value} {base : Heap}
theorem scl_free_signs : FnScope ["_law_rows_here", "_law_found", "_law_j", "_law_i"] ["_law_rows_here"] (defScope sl_free_signs) := ⟨rfl, rfl, rfl, by decide +kernel, rfl, by decide +kernel, by decide +kernel⟩
theorem ok_l_free_signs (T : Tx w K mg) : Cal P w K mg base "_law_free_signs" 1 ["_law_rows_here"] spFree := by
  obtain ⟨fd, F⟩ : ∃ fd, Fun K "_law_free_signs" "_law_free_signs" sl_free_signs 1030 fd := T.fn 108 _ rfl
  refine T.cal F 167 rfl (fun _ _ _ _ _ _ us hl => match us, hl with | [_], _ => rfl) ?_
  refine F.ok scl_free_signs (fun vs H Q E h => ?_) (fun cdv A outer s H vs Q E hr h => ?_)
  · obtain ⟨v, rows, wd, rfl, _⟩ := h
    rfl
  obtain ⟨v, rows, wd, rfl, ⟨t, rfl, et⟩, ok, k⟩ := h
  refine ⟨_, (pss_cons (ps_set (i := 1) scl_free_signs.nd rfl (Or.inl rfl) (pe_lst pa_nil))
    (pss_cons (ps_for PassesOwn.never rfl (pi_range1 rfl (fr_range T) (pa_cons (pe_callB call_len_seq rfl (fr_len T) (by decide +kernel) (pa_cons (pv 0) pa_nil)) pa_nil)) (pg_name (i := 2) scl_free_signs.nd rfl (Or.inr rfl))
      (pss_one (ps_set (i := 1) scl_free_signs.nd rfl (Or.inl rfl) (pe_op op_cat (pv 1) (pe_lc (own := [("_law_i", 3)]) (g := gName 3) (by rfl) scl_free_signs.nd (pi_range1 rfl (fr_range T) (pa_cons (pe_callB call_len rfl (fr_len T) (by decide +kernel) (pa_cons (pe_ix ix_tup (pv 0) pe_int (fun _ _ => rfl)) pa_nil)) pa_nil)) (blkOk_by (own := [("_law_i", 3)]) (N := ["_law_rows_here", "_law_found", "_law_j", "_law_i"]) (sc := defScope sl_free_signs) (by decide +kernel)) (fun _ _ _ _ _ => pg_name (i := 3) scl_free_signs.nd rfl (Or.inl rfl)) (fun _ _ _ _ _ => (pts_one (pt_cmpR op_ne (pe_ix ix_str (pe_ix (show IxR _ (rIxT K) from ix_tup) (pv 0) (pv 2) (fun _ _ => rfl)) (pv 3) (fun _ _ => rfl)) pe_str (nomark _)))) (fun _ _ _ _ _ => (pe_tup (pa_cons (pe_op op_mul pe_int (pv 3)) (pa_cons (pe_op op_mul pe_int (pv 2)) pa_nil)))))))))
    (pss_one (ps_ret (pv 1))))), ?_⟩
  refine ⟨(by show 0 ≤ sizeLine; decide), fun l nl => ?_⟩
  have kA : Kp M0 H (upd H l (.lst [])) := Kp.new nl
  have et1 := kA.tup _ _ et
  have n1 := ok.n1
  have n2 := ok.n2
  refine ⟨_, rfl, t, _, rfl, .inr (SqT.of et1), _, rfl, by rw [List.length_map]; omega, by rw [List.length_map]; omega, ?_⟩
  rw [show (((rows.map rwV).length : Nat) : Int).toNat = rows.length by rw [List.length_map]; rfl]
  refine for_range (lo := 0) (n := rows.length) (fun i σ' H' => ∃ (k1 k2 : Option V) (l' : Addr) (vs : List V) (ps : List (Int × Int)), σ' = [some (.ref t), some (.ref l'), k1, k2] ∧ Kp M0 H H' ∧ H' l' = some (.lst vs) ∧ All2 (PrAt H') vs ps ∧ ps.length ≤ 12 * i) ?_ ?_ ?_
  · exact ⟨none, none, l, [], [], rfl, kA, upd_same, trivial, by simp⟩
  · rintro i σ' H3 hi ⟨k1, k2, l', vs, ps, rfl, kp3, e3, hv, hn⟩
    have et3 := kp3.tup _ _ et
    obtain ⟨r, er⟩ : ∃ r, rows[i]? = some r := ⟨rows[i], List.getElem?_eq_getElem hi⟩
    have hr' := ok.sg r (List.mem_of_getElem? er)
    obtain ⟨r0, er0⟩ : ∃ r, rows[0]? = some r := ⟨rows[0], List.getElem?_eq_getElem (by omega)⟩
    have hr0 := ok.sg r0 (List.mem_of_getElem? er0)
    have w2 := ok.w2
    have l0 : (rwV r0) = .str ⟨r0.toArray⟩ := rfl
    refine ⟨_, rfl, _, rfl, t, _, 0, rwV r0, rfl, rfl, SqT.of et3, atI_of rfl (by rw [List.getElem?_map, er0]; rfl), rwV r0, r0.length, rfl, ⟨Nat.le_trans (show r0.length ≤ 12 by rw [hr0.1]; exact w2) (by decide), rfl⟩, _, rfl, by rw [hr0.1]; omega, by rw [hr0.1]; omega, fun D nD => ?_⟩
    rw [show ((r0.length : Nat) : Int).toNat = wd by rw [hr0.1]; rfl]
    refine lc_range (lo := 0) (n := wd) (fun j H' => Kp M0 H3 H' ∧ ∃ (us : List V) (qs : List (Int × Int)), H' D = some (.lst us) ∧ All2 (PrAt H') us qs ∧ qs.length ≤ j) ?_ ?_ ?_
    · exact ⟨Kp.new nD, [], [], upd_same, trivial, Nat.le_refl _⟩
    · rintro j H4 hj ⟨kp4, us, qs, eD, hu', hq⟩
      have et4 := kp4.tup _ _ et3
      obtain ⟨c, ec⟩ : ∃ c, r[j]? = some c := ⟨r[j]'(by rw [hr'.1]; exact hj), List.getElem?_eq_getElem (by rw [hr'.1]; exact hj)⟩
      refine ⟨rfl, _, rfl, _, rfl, t, _, _, rwV r, rfl, rfl, SqT.of et4, atI_of (Int.zero_add _) (by rw [List.getElem?_map, er]; rfl), _, rfl, _, _, c, rfl, rfl, Nat.le_trans (show r.length ≤ 12 by rw [hr'.1]; exact w2) (by decide), atI_of (Int.zero_add _) ec, rfl, _, rfl, ?_⟩
      refine hit (fun cc => ?_) (fun cc => ?_)
      · refine ⟨_, rfl, _, _, rfl, rfl, .inl ⟨by decide, by decide⟩, _, rfl, _, _, rfl, rfl, .inl ⟨by decide, by decide⟩, (by show 2 ≤ sizeLine; decide), fun p np => ?_⟩
        have kn : Kp M0 H4 (upd H4 p (.tup [.int (8 * (0 + (j : Int))), .int (8 * (0 + (i : Int)))])) := Kp.new np
        have eD' := kn.keep _ _ eD id
        have kw : Kp (fun a => a = D) _ (upd (upd H4 p (.tup [.int (8 * (0 + (j : Int))), .int (8 * (0 + (i : Int)))])) D (.lst (us ++ [.ref p]))) := Kp.rfl.set rfl (not_tup eD' trivial)
        have l2 := hu'.len
        refine ⟨us, eD', Nat.lt_of_le_of_lt (show us.length ≤ 100 by have := ok.w2; omega) (by decide), (kp4.trans kn).priv nD, us ++ [.ref p], qs ++ [(8 * (0 + (j : Int)), 8 * (0 + (i : Int)))], upd_same, ?_, ?_⟩
        · refine All2.snoc (hu'.mono fun v x q => (q.kp kn).kp kw) ⟨?_, p, rfl, kw.tup _ _ upd_same⟩
          show 0 ≤ 8 * (0 + (j : Int)) ∧ 8 * (0 + (j : Int)) ≤ 96 ∧ 0 ≤ 8 * (0 + (i : Int)) ∧ 8 * (0 + (i : Int)) ≤ 96
          omega
        · rw [List.length_append]
          show qs.length + 1 ≤ j + 1
          omega
      · exact ⟨kp4, us, qs, eD, hu', by omega⟩
    · rintro H4 ⟨kp4, us, qs, eD, hu', hq⟩
      have e4 := kp4.keep _ _ e3 id
      have l1 := hv.len
      have l2 := hu'.len
      refine ⟨l', D, vs, us, rfl, rfl, e4, eD, Nat.le_trans (show vs.length + us.length ≤ 1000 by omega) (by decide), fun p np => ?_⟩
      have kn : Kp M0 H4 (upd H4 p (.lst (vs ++ us))) := Kp.new np
      exact ⟨_, _, p, vs ++ us, ps ++ qs, rfl, kp3.trans (kp4.trans kn), upd_same, All2.app (hv.mono fun v x q => (q.kp kp4).kp kn) (hu'.mono fun v x q => q.kp kn), by rw [List.length_append]; omega⟩
  · rintro σ' H3 ⟨k1, k2, l', vs, ps, rfl, kp3, e3, hv, hn⟩
    exact ⟨_, rfl, k _ _ _ kp3 ⟨vs, e3, hv, by omega⟩⟩
end
end G
set_option Elab.async false
set_option linter.all false
set_option maxRecDepth 100000
set_option maxHeartbeats 4000000
namespace G
open PySem PySem.Spec PyProof.Rows L2
structure Bod where
  num : Int
  kind : Int
  x : Int
  y : Int
  dx : Int
  dy : Int
  owner : Int
  cells : List Int
def BoAt (H : Hp) (v : V) (b : Bod) : Prop := ∃ t c, v = .ref t ∧ H t = some (.tup [.int b.num, .int b.kind, .int b.x, .int b.y, .int b.dx, .int b.dy, .int b.owner, .ref c]) ∧ H c = some (.tup (b.cells.map V.int))
theorem BoAt.kp {M : Addr → Prop} {H H' : Hp} (k : Kp M H H') {v : V} {b : Bod} (h : BoAt H v b) : BoAt H' v b := by
  obtain ⟨t, c, h1, h2, h3⟩ := h
  exact ⟨t, c, h1, k.tup _ _ h2, k.tup _ _ h3⟩
structure BodOk (nk pl : Int) (b : Bod) : Prop where
  k0 : 0 ≤ b.kind
  k1 : b.kind < nk
  x0 : 0 ≤ b.x
  x1 : b.x ≤ 200
  y0 : 0 ≤ b.y
  y1 : b.y ≤ 200
  o0 : -1 ≤ b.owner
  o1 : b.owner < pl
  cl : b.cells.length = 4
structure BodsOk (nk pl : Int) (bs : List Bod) : Prop where
  all : ∀ b ∈ bs, BodOk nk pl b
  asc : (bs.map (·.num)).Pairwise (· < ·)
  n0 : ∀ b ∈ bs, 0 ≤ b.num ∧ b.num ≤ 100
  len : bs.length ≤ 5
def spBodies : Sp := fun vs H Q _ => ∃ (h sc a : Addr) (ks : List Kd) (v : V) (rows : List (List Nat)) (wd : Nat) (pl many : Int), vs = [.ref h, v, .ref a, .int pl, .int many] ∧ Hand H h sc ∧ RowsAt H v rows ∧ RowsOk rows wd ∧ KsAt H a ks ∧ 1 ≤ pl ∧ pl ≤ 4 ∧ 1 ≤ many ∧ many ≤ 5 ∧
  Gn h sc H Q fun u H' => ∃ t vs bs, u = .ref t ∧ H' t = some (.tup vs) ∧ All2 (BoAt H') vs bs ∧ BodsOk ks.length pl bs
section
variable {P : Program} {w : World} {K : PySem.W.Frag} {mg : Str → Option Value} {base : Heap}
theorem scl_plain_bodies : FnScope ["_law_hand_here", "_law_rows_here", "_law_kinds", "_law_players", "_law_many", "_law_free", "_law_found", "_law_number", "_law_k", "_law_kind", "_law_x", "_law_y", "_law_cells", "_law_j", "_law_speeds"] ["_law_hand_here", "_law_rows_here", "_law_kinds", "_law_players", "_law_many"] (defScope sl_plain_bodies) := ⟨rfl, rfl, rfl, by decide +kernel, rfl, by decide +kernel, by decide +kernel⟩
theorem ok_l_plain_bodies (T : Tx w K mg) : Cal P w K mg base "_law_plain_bodies" 4 ["_law_hand_here", "_law_rows_here", "_law_kinds", "_law_players", "_law_many"] spBodies := by
  obtain ⟨fd, F⟩ : ∃ fd, Fun K "_law_plain_bodies" "_law_plain_bodies" sl_plain_bodies 1035 fd := T.fn 109 _ rfl
  refine T.cal F 168 rfl (fun _ _ _ _ _ _ us hl => match us, hl with | [_, _, _, _, _], _ => rfl) ?_
  refine F.ok scl_plain_bodies (fun vs H Q E h => ?_) (fun cdv A outer s H vs Q E hr h => ?_)
  · obtain ⟨h, sc, a, ks, v, rows, wd, pl, many, rfl, _⟩ := h
    rfl
  obtain ⟨h, sc, a, ks, v, rows, wd, pl, many, rfl, hH, hR, ok, hK, p1, p4, m1, m5, k⟩ := h
  refine ⟨_, (pss_cons (ps_set (i := 5) scl_plain_bodies.nd rfl (Or.inl rfl) (pe_k (ok_l_free_signs T) (hr.mono (by decide)) (pa_cons (pv 1) pa_nil)))
    (pss_cons (ps_set (i := 6) scl_plain_bodies.nd rfl (Or.inl rfl) (pe_lst pa_nil))
    (pss_cons (ps_set (i := 7) scl_plain_bodies.nd rfl (Or.inl rfl) (pe_k (ok_l_take T) (hr.mono (by decide)) (pa_cons (pv 0) (pa_cons pe_int pa_nil))))
    (pss_cons (ps_for PassesOwn.never rfl (pi_range1 rfl (fr_range T) (pa_cons (pe_op op_mul (pv 4) (pe_callB (call_min2 rfl) rfl (fr_min T) (by decide +kernel) (pa_cons pe_int (pa_cons (pe_callB call_len_seq rfl (fr_len T) (by decide +kernel) (pa_cons (pv 5) pa_nil)) pa_nil)))) pa_nil)) (pg_name (i := 8) scl_plain_bodies.nd rfl (Or.inl rfl))
      (pss_cons (ps_set (i := 9) scl_plain_bodies.nd rfl (Or.inl rfl) (pe_k (ok_l_take T) (hr.mono (by decide)) (pa_cons (pv 0) (pa_cons (pe_callB call_len_seq rfl (fr_len T) (by decide +kernel) (pa_cons (pv 2) pa_nil)) pa_nil))))
    (pss_cons (ps_asg (pe_k (ok_l_pick T) (hr.mono (by decide)) (pa_cons (pv 0) (pa_cons (pv 5) pa_nil))) (pg_tup rfl (pgs_cons (pg_name (i := 10) scl_plain_bodies.nd rfl (Or.inl rfl)) (pgs_cons (pg_name (i := 11) scl_plain_bodies.nd rfl (Or.inl rfl)) pgs_nil))))
    (pss_cons (ps_set (i := 10) scl_plain_bodies.nd rfl (Or.inl rfl) (pe_op op_add (pv 10) (pe_k (ok_l_take T) (hr.mono (by decide)) (pa_cons (pv 0) (pa_cons (pe_callB (call_max2 rfl) rfl (fr_max T) (by decide +kernel) (pa_cons pe_int (pa_cons (pe_op op_sub pe_int (pe_ix ix_tup (pe_ix ix_list (pv 2) (pv 9) (fun _ _ => rfl)) pe_int (fun _ _ => rfl))) pa_nil))) pa_nil)))))
    (pss_cons (ps_set (i := 11) scl_plain_bodies.nd rfl (Or.inl rfl) (pe_op op_add (pv 11) (pe_k (ok_l_take T) (hr.mono (by decide)) (pa_cons (pv 0) (pa_cons (pe_callB (call_max2 rfl) rfl (fr_max T) (by decide +kernel) (pa_cons pe_int (pa_cons (pe_op op_sub pe_int (pe_ix ix_tup (pe_ix ix_list (pv 2) (pv 9) (fun _ _ => rfl)) pe_int (fun _ _ => rfl))) pa_nil))) pa_nil)))))
    (pss_cons (ps_set (i := 12) scl_plain_bodies.nd rfl (Or.inl rfl) (pe_callTy call_tuple_of rfl (fr_tuple T) (by decide +kernel) (pa_cons (pe_lc (own := [("_law_j", 13)]) (g := gName 13) (by rfl) scl_plain_bodies.nd (pi_range1 rfl (fr_range T) (pa_cons pe_int pa_nil)) (blkOk_by (own := [("_law_j", 13)]) (N := ["_law_hand_here", "_law_rows_here", "_law_kinds", "_law_players", "_law_many", "_law_free", "_law_found", "_law_number", "_law_k", "_law_kind", "_law_x", "_law_y", "_law_cells", "_law_j", "_law_speeds"]) (sc := defScope sl_plain_bodies) (by decide +kernel)) (fun _ _ _ _ _ => pg_name (i := 13) scl_plain_bodies.nd rfl (Or.inl rfl)) (fun _ _ _ _ _ => pts_nil) (fun _ _ _ _ _ => (pe_k (ok_l_small T) (hr.mono (by decide)) (pa_cons (pv 0) pa_nil)))) pa_nil)))
    (pss_cons (ps_set (i := 14) scl_plain_bodies.nd rfl (Or.inl rfl) (pe_tup (pa_cons (pe_op op_sub (pe_k (ok_l_take T) (hr.mono (by decide)) (pa_cons (pv 0) (pa_cons pe_int pa_nil))) pe_int) (pa_cons (pe_op op_sub (pe_k (ok_l_take T) (hr.mono (by decide)) (pa_cons (pv 0) (pa_cons pe_int pa_nil))) pe_int) pa_nil))))
    (pss_cons (ps_expr (pe_bm PySem.F.plainAttrs_list PySem.F.slot_list_append PySem.F.type_list_append mt_append (pv 6) (pa_cons (pe_op op_catA (pe_op op_catA (pe_tup (pa_cons (pv 7) (pa_cons (pv 9) (pa_cons (pv 10) (pa_cons (pv 11) pa_nil))))) (pv 14)) (pe_tup (pa_cons (pe_op op_sub (pe_k (ok_l_take T) (hr.mono (by decide)) (pa_cons (pv 0) (pa_cons (pe_op op_add (pv 3) pe_int) pa_nil))) pe_int) (pa_cons (pv 12) pa_nil)))) pa_nil)))
    (pss_one (ps_set (i := 7) scl_plain_bodies.nd rfl (Or.inl rfl) (pe_op op_add (pe_op op_add (pv 7) pe_int) (pe_op op_fdiv (pe_k (ok_l_take T) (hr.mono (by decide)) (pa_cons (pv 0) (pa_cons pe_int pa_nil))) pe_int))))))))))))
    (pss_one (ps_ret (pe_callTy call_tuple_of rfl (fr_tuple T) (by decide +kernel) (pa_cons (pv 6) pa_nil)))))))), ?_⟩
  refine ⟨_, rfl, v, rows, wd, rfl, hR, ok, fun l H1 ps kp1 ⟨fs, eF, hF, nF⟩ => ⟨(by show 0 ≤ sizeLine; decide), fun fd nd => ?_⟩⟩
  have kp1' : Kp (Mh h) H H1 := kp1.weak fun _ z => z.elim
  have hh1 : Hand H1 h sc := hH.keep kp1 id id
  have hK1 := hK.kp kp1 noD0 id
  have ha : a ≠ h := hK1.ne hh1
  have kpD : Kp (Mh h) H1 (upd H1 fd (.lst [])) := Kp.new nd
  have H0d : H fd = none := hh1.fr kp1' nd
  have nfd := hh1.neH nd
  have lfd : l ≠ fd := ne_of_none eF nd
  have afd : a ≠ fd := by
    obtain ⟨us, e, _⟩ := hK1
    exact ne_of_none e nd
  have hl := hF.len
  have hhD := hh1.new (o := .lst []) nd
  have eFD : (upd H1 fd (.lst [])) l = some (.lst fs) := by rw [upd_ne lfd]; exact eF
  refine ⟨_, rfl, h, sc, _, rfl, hhD, by decide, by decide, fun n0 H2 kp2 hh2 b0 b1 => ?_⟩
  have lh : l ≠ h := by
    intro z
    obtain ⟨⟨ns, i, big, st, cnt, e1, e2, h3, h4⟩, _⟩ := hh1
    rw [← z, eF] at e1
    cases e1
    obtain ⟨_, _, _, t, e, _⟩ := hF.getL (i := 1) (a := .int i) rfl
    cases e
  have eF2 : H2 l = some (.lst fs) := kp2.keep _ _ eFD lh
  refine ⟨_, rfl, _, rfl, l, fs, rfl, .inl (SqL.of eF2), _, _, rfl, _, _, rfl, rfl, .inl ⟨by omega, by omega⟩, ?_⟩
  have hm : ∃ m : Nat, many * (if (fs.length : Int) < 1 then (fs.length : Int) else 1) = (m : Int) ∧ m ≤ 5 ∧ (0 < m → 1 ≤ fs.length) := by
    by_cases z : (fs.length : Int) < 1
    · rw [if_pos z, show (fs.length : Int) = 0 by omega]
      exact ⟨0, by simp, by omega, fun q => absurd q (by omega)⟩
    · rw [if_neg z]
      exact ⟨many.toNat, by omega, by omega, fun _ => by omega⟩
  obtain ⟨m, em, m5', mF⟩ := hm
  refine ⟨_, rfl, by rw [em]; omega, by rw [em]; omega, ?_⟩
  rw [em, Int.toNat_natCast]
  have kpA : Kp (Mh h) H H2 := kp1'.trans (kpD.trans kp2)
  refine for_range (lo := 0) (n := m) (fun i σ' H' => ∃ (num : Int) (k1 k2 k3 k4 k5 k6 k7 : Option V) (vs : List V) (bs : List Bod), σ' = [some (.ref h), some v, some (.ref a), some (.int pl), some (.int many), some (.ref l), some (.ref fd), some (.int num), k1, k2, k3, k4, k5, k6, k7] ∧ Kp (Mh h) H H' ∧ Hand H' h sc ∧ KsAt H' a ks ∧ H' l = some (.lst fs) ∧ All2 (PrAt H') fs ps ∧ H' fd = some (.lst vs) ∧ All2 (BoAt H') vs bs ∧ (∀ b ∈ bs, BodOk ks.length pl b) ∧ (bs.map (·.num)).Pairwise (· < ·) ∧ (∀ b ∈ bs, 0 ≤ b.num ∧ b.num < num) ∧ bs.length = i ∧ 0 ≤ num ∧ num ≤ 2 + 2 * i) ?_ ?_ ?_
  · refine ⟨n0, none, none, none, none, none, none, none, [], [], rfl, kpA, hh2, (hK1.kp kpD hh1.noD ha).kp kp2 hhD.noD ha, eF2, hF.mono fun v x q => (q.kp kpD).kp kp2, kp2.keep _ _ upd_same nfd.1, trivial, ?_, List.Pairwise.nil, ?_, rfl, b0, by omega⟩ <;> exact fun b hb => absurd hb (by simp)
  · rintro i σ' H3 hi ⟨num, k1, k2, k3, k4, k5, k6, k7, vs, bs, rfl, kp3, hh3, hK3, e3, hF3, ed3, hB, hok, hasc, hnum, hlen, nu0, nu1⟩
    have fl := mF (by omega)
    have nk := hK3
    obtain ⟨us, eA3, hA3, n1, n8⟩ := hK3
    have hus := hA3.len
    refine ⟨_, rfl, _, rfl, a, us, rfl, .inl (SqL.of eA3), h, sc, _, rfl, hh3, by omega, by omega, fun kd H4 kp4 hh4 c0 c1 => ?_⟩
    have eA4 : H4 a = some (.lst us) := kp4.keep _ _ eA3 ha
    have e4 : H4 l = some (.lst fs) := kp4.keep _ _ e3 lh
    refine ⟨_, rfl, _, rfl, h, sc, l, fs, rfl, hh4, SqL.of e4, lh, fl, by omega, fun u H5 kp5 hh5 mem => ?_⟩
    obtain ⟨ix, hix⟩ := List.getElem?_of_mem mem
    obtain ⟨pr, _, ⟨q0, q1, q2, q3⟩, t, rfl, et⟩ := hF3.getL hix
    have et5 := kp5.tup _ _ (kp4.tup _ _ et)
    refine ⟨t, _, rfl, SqT.of et5, rfl, _, _, rfl, _, _, rfl, rfl, ?_⟩
    obtain ⟨uk, euk⟩ : ∃ v, us[kd.toNat]? = some v := ⟨us[kd.toNat]'(by omega), List.getElem?_eq_getElem (by omega)⟩
    obtain ⟨kk, _, ⟨⟨g1, g2, g3, g4⟩, tk, hv, rfl, ek, _⟩⟩ := hA3.getL euk
    have iK : kd = ((kd.toNat : Nat) : Int) := by omega
    have kp35 := kp4.trans kp5
    have eA5 : H5 a = some (.lst us) := kp5.keep _ _ eA4 ha
    refine ⟨_, rfl, _, rfl, _, rfl, _, rfl, a, us, kd, _, rfl, rfl, SqL.of eA5, atI_of iK euk, tk, _, 0, _, rfl, rfl, SqT.of (kp35.tup _ _ ek), rfl, _, _, rfl, rfl, _, _, rfl, h, sc, _, rfl, hh5, by split <;> omega, by split <;> omega, fun r1 H6 kp6 hh6 d0 d1 => ?_⟩
    have d2 : r1 ≤ 8 := by revert d1; split <;> omega
    have kp36 := kp35.trans kp6
    refine ⟨_, _, rfl, rfl, ?_⟩
    refine ⟨_, rfl, _, rfl, _, rfl, _, rfl, a, us, kd, _, rfl, rfl, SqL.of (kp6.keep _ _ eA5 ha), atI_of iK euk, tk, _, 1, _, rfl, rfl, SqT.of (kp36.tup _ _ ek), rfl, _, _, rfl, rfl, _, _, rfl, h, sc, _, rfl, hh6, by split <;> omega, by split <;> omega, fun r2 H7 kp7 hh7 f0 f1 => ?_⟩
    have f2 : r2 ≤ 8 := by revert f1; split <;> omega
    have kp37 := kp36.trans kp7
    refine ⟨_, _, rfl, rfl, ?_⟩
    -- the cells
    refine ⟨4, rfl, by decide, by decide, fun D nD => ?_⟩
    refine lc_range (lo := 0) (n := 4) (fun j H' => Kp (Mh h) H7 H' ∧ Hand H' h sc ∧ ∃ cs : List Int, H' D = some (.lst (cs.map V.int)) ∧ cs.length = j) ?_ ?_ ?_
    · exact ⟨Kp.new nD, hh7.new nD, [], upd_same, rfl⟩
    · rintro j H8 hj ⟨kp8, hh8, cs, eD, hcs⟩
      refine ⟨rfl, _, rfl, h, sc, rfl, hh8, fun v H9 kp9 hh9 ⟨r, er, _⟩ => ?_⟩
      subst er
      have dh := (hh7.neH nD)
      have eD9 := kp9.keep _ _ eD dh.1
      have kw : Kp (fun a => a = D) H9 (upd H9 D (.lst (cs.map V.int ++ [.int r]))) := Kp.rfl.set rfl (not_tup eD9 trivial)
      refine ⟨_, eD9, Nat.lt_of_le_of_lt (show (cs.map V.int).length ≤ 100 by rw [List.length_map]; omega) (by decide), (kp8.trans kp9).priv nD, hh9.keep kw (fun z => dh.1 z.symm) (fun z => dh.2 z.symm), cs ++ [r], ?_, by rw [List.length_append, hcs]; rfl⟩
      rw [upd_same, List.map_append]
      rfl
    rintro H8 ⟨kp8, hh8, cs, eD, hcs⟩
    refine ⟨D, _, rfl, .inl ⟨SqL.of eD, fun c nc => ?_⟩⟩
    have kpc : Kp (Mh h) H8 (upd H8 c (.tup (cs.map V.int))) := Kp.new nc
    have hhc := hh8.new (o := .tup (cs.map V.int)) nc
    have ec : (upd H8 c (.tup (cs.map V.int))) c = some (.tup (cs.map V.int)) := upd_same
    have kp39 := kp37.trans (kp8.trans kpc)
    show tSeq _ _ _ _ (upd H8 c (.tup (cs.map V.int)))
    generalize upd H8 c (.tup (cs.map V.int)) = H9 at kpc hhc ec kp39
    refine ⟨_, rfl, h, sc, _, rfl, hhc, by decide, by decide, fun r3 Ha kpa hha x0 x1 => ?_⟩
    refine ⟨_, _, rfl, rfl, _, rfl, h, sc, _, rfl, hha, by decide, by decide, fun r4 Hb kpb hhb y0 y1 => ?_⟩
    refine ⟨_, _, rfl, rfl, (by show 2 ≤ sizeLine; decide), fun t5 n5 => ?_⟩
    have kp5' : Kp (Mh h) Hb (upd Hb t5 (.tup [.int (r3 - 16), .int (r4 - 16)])) := Kp.new n5
    have hh5' := hhb.new (o := .tup [.int (r3 - 16), .int (r4 - 16)]) n5
    have e5 : (upd Hb t5 (.tup [.int (r3 - 16), .int (r4 - 16)])) t5 = some (.tup [.int (r3 - 16), .int (r4 - 16)]) := upd_same
    have kp3c := kp39.trans (kpa.trans (kpb.trans kp5'))
    have ec' := kp5'.tup _ _ (kpb.tup _ _ (kpa.tup _ _ ec))
    show tSeq _ _ _ _ (upd Hb t5 (.tup [.int (r3 - 16), .int (r4 - 16)]))
    generalize upd Hb t5 (.tup [.int (r3 - 16), .int (r4 - 16)]) = Hc at kp5' hh5' e5 kp3c ec'
    have fdh : fd ≠ h := nfd.1
    have edc := kp3c.keep _ _ ed3 fdh
    refine ⟨_, rfl, .inl ⟨rfl, _, SqL.of edc⟩, ?_⟩
    refine ⟨_, rfl, _, rfl, _, rfl, _, rfl, (by show 4 ≤ sizeLine; decide), fun t6 n6 => ?_⟩
    have kp6' : Kp (Mh h) Hc (upd Hc t6 (.tup [.int num, .int kd, .int (pr.1 + r1), .int (pr.2 + r2)])) := Kp.new n6
    have hh6' := hh5'.new (o := .tup [.int num, .int kd, .int (pr.1 + r1), .int (pr.2 + r2)]) n6
    refine ⟨_, rfl, t6, t5, _, _, rfl, rfl, SqT.of upd_same, SqT.of (kp6'.tup _ _ e5), (by show 6 ≤ sizeLine; decide), fun z => (by cases z), fun _ z => (by cases z), fun _ _ t7 n7 => ?_⟩
    have e7 : (upd (upd Hc t6 (.tup [.int num, .int kd, .int (pr.1 + r1), .int (pr.2 + r2)])) t7 (.tup [.int num, .int kd, .int (pr.1 + r1), .int (pr.2 + r2), .int (r3 - 16), .int (r4 - 16)])) t7 = some (.tup [.int num, .int kd, .int (pr.1 + r1), .int (pr.2 + r2), .int (r3 - 16), .int (r4 - 16)]) := upd_same
    have kp7' : Kp (Mh h) (upd Hc t6 (.tup [.int num, .int kd, .int (pr.1 + r1), .int (pr.2 + r2)])) (upd (upd Hc t6 (.tup [.int num, .int kd, .int (pr.1 + r1), .int (pr.2 + r2)])) t7 (.tup [.int num, .int kd, .int (pr.1 + r1), .int (pr.2 + r2), .int (r3 - 16), .int (r4 - 16)])) := Kp.new n7
    have hh7' := hh6'.new (o := .tup [.int num, .int kd, .int (pr.1 + r1), .int (pr.2 + r2), .int (r3 - 16), .int (r4 - 16)]) n7
    refine ⟨_, rfl, _, rfl, _, _, rfl, rfl, h, sc, _, rfl, hh7', by omega, by omega, fun r5 Hd kpd hhd z0 z1 => ?_⟩
    refine ⟨_, _, rfl, rfl, _, rfl, (by show 2 ≤ sizeLine; decide), fun t8 n8' => ?_⟩
    have kp8' : Kp (Mh h) Hd (upd Hd t8 (.tup [.int (r5 - 1), .ref c])) := Kp.new n8'
    have hh8' := hhd.new (o := .tup [.int (r5 - 1), .ref c]) n8'
    refine ⟨t7, t8, _, _, rfl, rfl, SqT.of (kp8'.tup _ _ (kpd.tup _ _ e7)), SqT.of upd_same, (by show 8 ≤ sizeLine; decide), fun z => (by cases z), fun _ z => (by cases z), fun _ _ t9 n9 => ?_⟩
    have kp9' : Kp (Mh h) (upd Hd t8 (.tup [.int (r5 - 1), .ref c])) (upd (upd Hd t8 (.tup [.int (r5 - 1), .ref c])) t9 (.tup [.int num, .int kd, .int (pr.1 + r1), .int (pr.2 + r2), .int (r3 - 16), .int (r4 - 16), .int (r5 - 1), .ref c])) := Kp.new n9
    have hh9' := hh8'.new (o := .tup [.int num, .int kd, .int (pr.1 + r1), .int (pr.2 + r2), .int (r3 - 16), .int (r4 - 16), .int (r5 - 1), .ref c]) n9
    have e9 : (upd (upd Hd t8 (.tup [.int (r5 - 1), .ref c])) t9 (.tup [.int num, .int kd, .int (pr.1 + r1), .int (pr.2 + r2), .int (r3 - 16), .int (r4 - 16), .int (r5 - 1), .ref c])) t9 = some (.tup [.int num, .int kd, .int (pr.1 + r1), .int (pr.2 + r2), .int (r3 - 16), .int (r4 - 16), .int (r5 - 1), .ref c]) := upd_same
    have kpz := kp6'.trans (kp7'.trans (kpd.trans (kp8'.trans kp9')))
    have edz := kpz.keep _ _ edc fdh
    have ecz := kpz.tup _ _ ec'
    have kpt := kp3c.trans kpz
    show tNil _ (upd (upd Hd t8 (.tup [.int (r5 - 1), .ref c])) t9 (.tup [.int num, .int kd, .int (pr.1 + r1), .int (pr.2 + r2), .int (r3 - 16), .int (r4 - 16), .int (r5 - 1), .ref c])) _
    generalize upd (upd Hd t8 (.tup [.int (r5 - 1), .ref c])) t9 (.tup [.int num, .int kd, .int (pr.1 + r1), .int (pr.2 + r2), .int (r3 - 16), .int (r4 - 16), .int (r5 - 1), .ref c]) = He at kp9' hh9' e9 kpz edz ecz kpt
    have hvl := hB.len
    refine ⟨fd, vs, .ref t9, rfl, rfl, edz, Nat.lt_of_le_of_lt (show vs.length ≤ 100 by omega) (by decide), ?_⟩
    have kw : Kp (fun a => a = fd) He (upd He fd (.lst (vs ++ [.ref t9]))) := Kp.rfl.set rfl (not_tup edz trivial)
    have hhw := hh9'.keep kw (fun z => nfd.1 z.symm) (fun z => nfd.2 z.symm)
    have ndw : NoD (fun a => a = fd) He := fun b kvs e z => by
      rw [z, edz] at e
      cases e
    have kw0 : Kp (Mh h) H He := kp3.trans kpt
    refine ⟨_, rfl, _, _, rfl, rfl, _, rfl, h, sc, _, rfl, hhw, by decide, by decide, fun r6 Hf kpf hhf v0 v1 => ?_⟩
    refine ⟨_, _, rfl, rfl, ⟨by decide, by decide⟩, _, _, rfl, rfl, ?_⟩
    have hq : 0 ≤ r6 / 6 ∧ r6 / 6 ≤ 1 := by omega
    have lw := lfd
    refine ⟨_, _, _, _, _, _, _, _, vs ++ [.ref t9], bs ++ [⟨num, kd, pr.1 + r1, pr.2 + r2, r3 - 16, r4 - 16, r5 - 1, cs⟩], rfl, (kw0.priv H0d).trans kpf, hhf, ((nk.kp kpt hh3.noD ha).kp kw ndw afd).kp kpf hhw.noD ha, kpf.keep _ _ (kw.keep _ _ (kpt.keep _ _ e3 lh) lfd) lh, hF3.mono fun v x q => ((q.kp kpt).kp kw).kp kpf, kpf.keep _ _ upd_same fdh, ?_, ?_, ?_, ?_, ?_, by omega, by omega⟩
    · refine All2.snoc (hB.mono fun v x q => ((q.kp kpt).kp kw).kp kpf) ⟨t9, c, rfl, kpf.tup _ _ (kw.tup _ _ e9), kpf.tup _ _ (kw.tup _ _ ecz)⟩
    · intro b hb
      rcases List.mem_append.mp hb with z | z
      · exact hok b z
      · rw [List.mem_singleton.mp z]
        exact ⟨c0, by rw [← hus]; exact c1, by show 0 ≤ pr.1 + r1; omega, by show pr.1 + r1 ≤ 200; omega, by show 0 ≤ pr.2 + r2; omega, by show pr.2 + r2 ≤ 200; omega, by show -1 ≤ r5 - 1; omega, by show r5 - 1 < pl; omega, hcs⟩
    · rw [List.map_append, List.pairwise_append]
      refine ⟨hasc, List.pairwise_singleton _ _, ?_⟩
      intro x hx y hy
      obtain ⟨b, hb, rfl⟩ := List.mem_map.mp hx
      rw [List.mem_singleton.mp hy]
      exact (hnum b hb).2
    · intro b hb
      rcases List.mem_append.mp hb with z | z
      · have := hnum b z
        omega
      · rw [List.mem_singleton.mp z]
        show 0 ≤ num ∧ num < num + 1 + r6 / 6
        omega
    · rw [List.length_append, hlen]
      rfl
  · rintro σ' H3 ⟨num, k1, k2, k3, k4, k5, k6, k7, vs, bs, rfl, kp3, hh3, hK3, e3, hF3, ed3, hB, hok, hasc, hnum, hlen, nu0, nu1⟩
    refine ⟨_, rfl, fd, _, rfl, .inl ⟨SqL.of ed3, fun t nt => ?_⟩⟩
    have kn : Kp (Mh h) H3 (upd H3 t (.tup vs)) := Kp.new nt
    exact k _ _ (kp3.trans kn) (hh3.new nt) ⟨t, vs, bs, rfl, upd_same, hB.mono fun v x q => q.kp kn, hok, hasc, fun b hb => ⟨(hnum b hb).1, by have := (hnum b hb).2; omega⟩, by omega⟩
end
end G
set_option Elab.async false
set_option linter.all false
set_option maxRecDepth 100000
set_option maxHeartbeats 4000000
namespace G
open PySem PySem.Spec PyProof.Rows L2
structure Pts where
  tick : Int
  seed : Int
  sh : List Int
  bs : List Bod
  said : List Int
  asked : List (List Int)
  lv : List Int
def AsAt (H : Hp) (v : V) (l : List Int) : Prop := l.length = 5 ∧ ∃ t, v = .ref t ∧ H t = some (.tup (l.map V.int))
theorem AsAt.kp {M : Addr → Prop} {H H' : Hp} (k : Kp M H H') {v : V} {l : List Int} (h : AsAt H v l) : AsAt H' v l := by
  obtain ⟨h0, t, h1, h2⟩ := h
  exact ⟨h0, t, h1, k.tup _ _ h2⟩
/-- the seven parts, by their values -/
structure Pt7 (H : Hp) (p : Pts) (sh bo sa as lv : Addr) : Prop where
  sh : H sh = some (.tup (p.sh.map V.int))
  bo : ∃ vs, H bo = some (.tup vs) ∧ All2 (BoAt H) vs p.bs
  sa : H sa = some (.tup (p.said.map V.int))
  as : ∃ vs, H as = some (.tup vs) ∧ All2 (AsAt H) vs p.asked
  lv : H lv = some (.tup (p.lv.map V.int))
theorem Pt7.kp {M : Addr → Prop} {H H' : Hp} (k : Kp M H H') {p : Pts} {sh bo sa as lv : Addr} (h : Pt7 H p sh bo sa as lv) : Pt7 H' p sh bo sa as lv := by
  obtain ⟨h1, ⟨vs, h2, h3⟩, h4, ⟨us, h5, h6⟩, h7⟩ := h
  exact ⟨k.tup _ _ h1, ⟨vs, k.tup _ _ h2, h3.mono fun _ _ q => q.kp k⟩, k.tup _ _ h4, ⟨us, k.tup _ _ h5, h6.mono fun _ _ q => q.kp k⟩, k.tup _ _ h7⟩
def PtsAt (H : Hp) (v : V) (p : Pts) : Prop := ∃ t sh bo sa as lv, v = .ref t ∧ H t = some (.tup [.int p.tick, .int p.seed, .ref sh, .ref bo, .ref sa, .ref as, .ref lv]) ∧ Pt7 H p sh bo sa as lv
theorem PtsAt.kp {M : Addr → Prop} {H H' : Hp} (k : Kp M H H') {v : V} {p : Pts} (h : PtsAt H v p) : PtsAt H' v p := by
  obtain ⟨t, sh, bo, sa, as, lv, h1, h2, h3⟩ := h
  exact ⟨t, sh, bo, sa, as, lv, h1, k.tup _ _ h2, h3.kp k⟩
structure PtsOk (nk pl : Int) (r : Nat) (p : Pts) : Prop where
  sh : p.sh.length = 8
  bs : BodsOk nk pl p.bs
  sa : p.said.length ≤ 64
  as : p.asked.length ≤ 32
  asc : p.lv.Pairwise (· < ·)
  lv : p.lv.length ≤ 5 + r
  s0 : 0 ≤ p.seed
  s1 : p.seed ≤ 2147483646
def spParts : Sp := fun vs H Q _ => ∃ (h sc a : Addr) (ks : List Kd) (v : V) (rows : List (List Nat)) (wd : Nat) (pl many : Int), vs = [.ref h, v, .ref a, .int pl, .int many] ∧ Hand H h sc ∧ RowsAt H v rows ∧ RowsOk rows wd ∧ KsAt H a ks ∧ 1 ≤ pl ∧ pl ≤ 4 ∧ 1 ≤ many ∧ many ≤ 5 ∧
  Gn h sc H Q fun u H' => ∃ p, PtsAt H' u p ∧ PtsOk ks.length pl 0 p
def spInputs : Sp := fun vs H Q _ => ∃ (h sc : Addr) (pl : Int), vs = [.ref h, .int pl] ∧ Hand H h sc ∧ 1 ≤ pl ∧ pl ≤ 4 ∧
  Gn h sc H Q fun u H' => ∃ (t : Addr) (ns : List Int), u = .ref t ∧ H' t = some (.tup (ns.map V.int)) ∧ (ns.length : Int) = pl ∧ ∀ m ∈ ns, 0 ≤ m ∧ m ≤ 255
section
variable {P : Program} {w : World} {K : PySem.W.Frag} {mg : Str → Option Value} {base : Heap}
theorem scl_inputs : FnScope ["_law_hand_here", "_law_players", "_law_k"] ["_law_hand_here", "_law_players"] (defScope sl_inputs) := ⟨rfl, rfl, rfl, by decide +kernel, rfl, by decide +kernel, by decide +kernel⟩
theorem ok_l_inputs (T : Tx w K mg) : Cal P w K mg base "_law_inputs" 4 ["_law_hand_here", "_law_players"] spInputs := by
  obtain ⟨fd, F⟩ : ∃ fd, Fun K "_law_inputs" "_law_inputs" sl_inputs 1059 fd := T.fn 113 _ rfl
  refine T.cal F 172 rfl (fun _ _ _ _ _ _ us hl => match us, hl with | [_, _], _ => rfl) ?_
  refine F.ok scl_inputs (fun vs H Q E h => ?_) (fun cdv A outer s H vs Q E hr h => ?_)
  · obtain ⟨h, sc, pl, rfl, _⟩ := h
    rfl
  obtain ⟨h, sc, pl, rfl, hH, p1, p4, k⟩ := h
  refine ⟨_, (pss_one (ps_ret (pe_callTy call_tuple_of rfl (fr_tuple T) (by decide +kernel) (pa_cons (pe_lc (own := [("_law_k", 2)]) (g := gName 2) (by rfl) scl_inputs.nd (pi_range1 rfl (fr_range T) (pa_cons (pv 1) pa_nil)) (blkOk_by (own := [("_law_k", 2)]) (N := ["_law_hand_here", "_law_players", "_law_k"]) (sc := defScope sl_inputs) (by decide +kernel)) (fun _ _ _ _ _ => pg_name (i := 2) scl_inputs.nd rfl (Or.inl rfl)) (fun _ _ _ _ _ => pts_nil) (fun _ _ _ _ _ => (pe_k (ok_l_pick T) (hr.mono (by decide)) (pa_cons (pv 0) (pa_cons (pe_lst (pa_cons pe_int (pa_cons pe_int (pa_cons (pe_k (ok_l_take T) (hr.mono (by decide)) (pa_cons (pv 0) (pa_cons pe_int pa_nil))) pa_nil)))) pa_nil))))) pa_nil)))), ?_⟩
  refine ⟨_, rfl, pl, rfl, by omega, by omega, fun D nD => ?_⟩
  refine lc_range (lo := 0) (n := pl.toNat) (fun j H' => Kp (Mh h) H H' ∧ Hand H' h sc ∧ ∃ cs : List Int, H' D = some (.lst (cs.map V.int)) ∧ cs.length = j ∧ ∀ n ∈ cs, 0 ≤ n ∧ n ≤ 255) ?_ ?_ ?_
  · exact ⟨Kp.new nD, hH.new nD, [], upd_same, rfl, fun n hn => absurd hn (by simp)⟩
  · rintro j H8 hj ⟨kp8, hh8, cs, eD, hcs, hb⟩
    refine ⟨rfl, _, rfl, _, rfl, h, sc, _, rfl, hh8, by decide, by decide, fun r H9 kp9 hh9 a b => ⟨(by show 3 ≤ sizeLine; decide), fun p np => ?_⟩⟩
    refine ⟨h, sc, p, _, rfl, hh9.new np, SqL.of upd_same, (hh9.neH np).1, (by show 1 ≤ 3; decide), (by show 3 < 1073741824; decide), fun v Ha kpa hha q => ?_⟩
    have hv : ∃ m : Int, v = .int m ∧ 0 ≤ m ∧ m ≤ 255 := by
      simp only [List.mem_cons, List.not_mem_nil, or_false] at q
      rcases q with q | q | q
      · exact ⟨_, q, by decide⟩
      · exact ⟨_, q, by decide⟩
      · exact ⟨_, q, by omega⟩
    obtain ⟨m, rfl, m0, m1⟩ := hv
    have dh := hH.neH nD
    have kz := kp9.trans ((Kp.new (M := Mh h) np).trans kpa)
    have eDa := kz.keep _ _ eD dh.1
    have kw : Kp (fun a => a = D) Ha (upd Ha D (.lst (cs.map V.int ++ [.int m]))) := Kp.rfl.set rfl (not_tup eDa trivial)
    refine ⟨_, eDa, Nat.lt_of_le_of_lt (show (cs.map V.int).length ≤ 100 by rw [List.length_map]; omega) (by decide), (kp8.trans kz).priv nD, hha.keep kw (fun z => dh.1 z.symm) (fun z => dh.2 z.symm), cs ++ [m], ?_, by rw [List.length_append, hcs]; rfl, ?_⟩
    · rw [upd_same, List.map_append]
      rfl
    · intro n hn
      rcases List.mem_append.mp hn with z | z
      · exact hb n z
      · rw [List.mem_singleton.mp z]
        exact ⟨m0, m1⟩
  rintro H8 ⟨kp8, hh8, cs, eD, hcs, hb⟩
  refine ⟨D, _, rfl, .inl ⟨SqL.of eD, fun c nc => ?_⟩⟩
  exact k _ _ (kp8.trans (Kp.new nc)) (hh8.new nc) ⟨c, cs, rfl, upd_same, by omega, hb⟩
theorem scl_standing_parts : FnScope ["_law_hand_here", "_law_rows_here", "_law_kinds", "_law_players", "_law_many", "_law_bodies", "_law_shared", "_law_k", "_law_tick", "_law_seed_here", "_law_said", "_law_asked", "_law_kind", "_law_place", "_law_leaving", "_law_body_here"] ["_law_hand_here", "_law_rows_here", "_law_kinds", "_law_players", "_law_many"] (defScope sl_standing_parts) := ⟨rfl, rfl, rfl, by decide +kernel, rfl, by decide +kernel, by decide +kernel⟩
theorem ok_l_standing_parts (T : Tx w K mg) : Cal P w K mg base "_law_standing_parts" 5 ["_law_hand_here", "_law_rows_here", "_law_kinds", "_law_players", "_law_many"] spParts := by
  obtain ⟨fd, F⟩ : ∃ fd, Fun K "_law_standing_parts" "_law_standing_parts" sl_standing_parts 1040 fd := T.fn 110 _ rfl
  refine T.cal F 169 rfl (fun _ _ _ _ _ _ us hl => match us, hl with | [_, _, _, _, _], _ => rfl) ?_
  refine F.ok scl_standing_parts (fun vs H Q E h => ?_) (fun cdv A outer s H vs Q E hr h => ?_)
  · obtain ⟨h, sc, a, ks, v, rows, wd, pl, many, rfl, _⟩ := h
    rfl
  obtain ⟨h, sc, a, ks, v, rows, wd, pl, many, rfl, hH, hR, ok, hK, p1, p4, m1, m5, k⟩ := h
  refine ⟨_, (pss_cons (ps_set (i := 5) scl_standing_parts.nd rfl (Or.inl rfl) (pe_k (ok_l_plain_bodies T) (hr.mono (by decide)) (pa_cons (pv 0) (pa_cons (pv 1) (pa_cons (pv 2) (pa_cons (pv 3) (pa_cons (pv 4) pa_nil)))))))
    (pss_cons (ps_set (i := 6) scl_standing_parts.nd rfl (Or.inl rfl) (pe_callTy call_tuple_of rfl (fr_tuple T) (by decide +kernel) (pa_cons (pe_lc (own := [("_law_k", 7)]) (g := gName 7) (by rfl) scl_standing_parts.nd (pi_range1 rfl (fr_range T) (pa_cons pe_int pa_nil)) (blkOk_by (own := [("_law_k", 7)]) (N := ["_law_hand_here", "_law_rows_here", "_law_kinds", "_law_players", "_law_many", "_law_bodies", "_law_shared", "_law_k", "_law_tick", "_law_seed_here", "_law_said", "_law_asked", "_law_kind", "_law_place", "_law_leaving", "_law_body_here"]) (sc := defScope sl_standing_parts) (by decide +kernel)) (fun _ _ _ _ _ => pg_name (i := 7) scl_standing_parts.nd rfl (Or.inl rfl)) (fun _ _ _ _ _ => pts_nil) (fun _ _ _ _ _ => (pe_k (ok_l_small T) (hr.mono (by decide)) (pa_cons (pv 0) pa_nil)))) pa_nil)))
    (pss_cons (ps_set (i := 8) scl_standing_parts.nd rfl (Or.inl rfl) (pe_op op_add pe_int (pe_k (ok_l_pick T) (hr.mono (by decide)) (pa_cons (pv 0) (pa_cons (pe_lst (pa_cons (pe_k (ok_l_take T) (hr.mono (by decide)) (pa_cons (pv 0) (pa_cons pe_int pa_nil))) (pa_cons (pe_k (ok_l_take T) (hr.mono (by decide)) (pa_cons (pv 0) (pa_cons pe_int pa_nil))) (pa_cons (pe_op op_pow pe_int pe_int) pa_nil)))) pa_nil)))))
    (pss_cons (ps_set (i := 9) scl_standing_parts.nd rfl (Or.inl rfl) (pe_k (ok_l_seed T) (hr.mono (by decide)) (pa_cons (pv 0) pa_nil)))
    (pss_cons (ps_set (i := 10) scl_standing_parts.nd rfl (Or.inl rfl) (pe_callTy call_tuple_of rfl (fr_tuple T) (by decide +kernel) (pa_cons (pe_lc (own := [("_law_k", 7)]) (g := gName 7) (by rfl) scl_standing_parts.nd (pi_range1 rfl (fr_range T) (pa_cons (pe_k (ok_l_pick T) (hr.mono (by decide)) (pa_cons (pv 0) (pa_cons (pe_lst (pa_cons pe_int (pa_cons pe_int (pa_cons pe_int (pa_cons pe_int (pa_cons pe_int pa_nil)))))) pa_nil))) pa_nil)) (blkOk_by (own := [("_law_k", 7)]) (N := ["_law_hand_here", "_law_rows_here", "_law_kinds", "_law_players", "_law_many", "_law_bodies", "_law_shared", "_law_k", "_law_tick", "_law_seed_here", "_law_said", "_law_asked", "_law_kind", "_law_place", "_law_leaving", "_law_body_here"]) (sc := defScope sl_standing_parts) (by decide +kernel)) (fun _ _ _ _ _ => pg_name (i := 7) scl_standing_parts.nd rfl (Or.inl rfl)) (fun _ _ _ _ _ => pts_nil) (fun _ _ _ _ _ => (pe_k (ok_l_small T) (hr.mono (by decide)) (pa_cons (pv 0) pa_nil)))) pa_nil)))
    (pss_cons (ps_set (i := 11) scl_standing_parts.nd rfl (Or.inl rfl) (pe_lst pa_nil))
    (pss_cons (ps_for PassesOwn.never rfl (pi_range1 rfl (fr_range T) (pa_cons (pe_k (ok_l_pick T) (hr.mono (by decide)) (pa_cons (pv 0) (pa_cons (pe_lst (pa_cons pe_int (pa_cons pe_int (pa_cons pe_int (pa_cons pe_int (pa_cons pe_int pa_nil)))))) pa_nil))) pa_nil)) (pg_name (i := 7) scl_standing_parts.nd rfl (Or.inl rfl))
      (pss_cons (ps_set (i := 12) scl_standing_parts.nd rfl (Or.inl rfl) (pe_k (ok_l_take T) (hr.mono (by decide)) (pa_cons (pv 0) (pa_cons (pe_callB call_len_seq rfl (fr_len T) (by decide +kernel) (pa_cons (pv 2) pa_nil)) pa_nil))))
    (pss_cons (ps_set (i := 13) scl_standing_parts.nd rfl (Or.inl rfl) (pe_tup (pa_cons (pe_k (ok_l_small T) (hr.mono (by decide)) (pa_cons (pv 0) pa_nil)) (pa_cons (pe_k (ok_l_small T) (hr.mono (by decide)) (pa_cons (pv 0) pa_nil)) pa_nil))))
    (pss_one (ps_expr (pe_bm PySem.F.plainAttrs_list PySem.F.slot_list_append PySem.F.type_list_append mt_append (pv 11) (pa_cons (pe_op op_catA (pe_op op_catA (pe_tup (pa_cons (pv 12) pa_nil)) (pv 13)) (pe_tup (pa_cons (pe_op op_sub (pe_k (ok_l_take T) (hr.mono (by decide)) (pa_cons (pv 0) (pa_cons (pe_op op_add (pv 3) pe_int) pa_nil))) pe_int) (pa_cons (pe_k (ok_l_small T) (hr.mono (by decide)) (pa_cons (pv 0) pa_nil)) pa_nil)))) pa_nil)))))))
    (pss_cons (ps_set (i := 14) scl_standing_parts.nd rfl (Or.inl rfl) (pe_callTy call_tuple_of rfl (fr_tuple T) (by decide +kernel) (pa_cons (pe_lc (own := [("_law_body_here", 15)]) (g := gName 15) (by rfl) scl_standing_parts.nd (pi_tup (pv 5)) (blkOk_by (own := [("_law_body_here", 15)]) (N := ["_law_hand_here", "_law_rows_here", "_law_kinds", "_law_players", "_law_many", "_law_bodies", "_law_shared", "_law_k", "_law_tick", "_law_seed_here", "_law_said", "_law_asked", "_law_kind", "_law_place", "_law_leaving", "_law_body_here"]) (sc := defScope sl_standing_parts) (by decide +kernel)) (fun _ _ _ _ _ => pg_name (i := 15) scl_standing_parts.nd rfl (Or.inl rfl)) (fun _ _ _ _ _ => (pts_one (pt_cmpR op_eq (pe_k (ok_l_take T) (hr.mono (by decide)) (pa_cons (pv 0) (pa_cons pe_int pa_nil))) pe_int (nomark _)))) (fun _ _ _ _ _ => (pe_ix (show IxR _ (rIxT K) from ix_tup) (pv 15) pe_int (fun _ _ => rfl)))) pa_nil)))
    (pss_one (ps_ret (pe_tup (pa_cons (pv 8) (pa_cons (pv 9) (pa_cons (pv 6) (pa_cons (pv 5) (pa_cons (pv 10) (pa_cons (pe_callTy call_tuple_of rfl (fr_tuple T) (by decide +kernel) (pa_cons (pv 11) pa_nil)) (pa_cons (pv 14) pa_nil)))))))))))))))))), ?_⟩
  have ha : a ≠ h := hK.ne hH
  refine ⟨_, rfl, _, rfl, _, rfl, _, rfl, _, rfl, h, sc, a, ks, v, rows, wd, pl, many, rfl, hH, hR, ok, hK, p1, p4, m1, m5, fun u H1 kp1 hh1 ⟨bt, bvs, bs, eu, eb, hB, hbok⟩ => ?_⟩
  subst eu
  refine ⟨8, rfl, by decide, by decide, fun D1 nD1 => ?_⟩
  refine lc_range (lo := 0) (n := 8) (fun j H' => Kp (Mh h) H1 H' ∧ Hand H' h sc ∧ ∃ cs : List Int, H' D1 = some (.lst (cs.map V.int)) ∧ cs.length = j) ?_ ?_ ?_
  · exact ⟨Kp.new nD1, hh1.new nD1, [], upd_same, rfl⟩
  · rintro j H8 hj ⟨kp8, hh8, cs, eD, hcs⟩
    refine ⟨rfl, _, rfl, h, sc, rfl, hh8, fun v H9 kp9 hh9 ⟨r, er, _⟩ => ?_⟩
    subst er
    have dh := (hh1.neH nD1)
    have eD9 := kp9.keep _ _ eD dh.1
    have kw : Kp (fun a => a = D1) H9 (upd H9 D1 (.lst (cs.map V.int ++ [.int r]))) := Kp.rfl.set rfl (not_tup eD9 trivial)
    refine ⟨_, eD9, Nat.lt_of_le_of_lt (show (cs.map V.int).length ≤ 100 by rw [List.length_map]; omega) (by decide), (kp8.trans kp9).priv nD1, hh9.keep kw (fun z => dh.1 z.symm) (fun z => dh.2 z.symm), cs ++ [r], ?_, by rw [List.length_append, hcs]; rfl⟩
    rw [upd_same, List.map_append]
    rfl
  rintro HSa ⟨kpSa, hhSa, csS, eDS, hcsS⟩
  refine ⟨D1, _, rfl, .inl ⟨SqL.of eDS, fun cS ncS => ?_⟩⟩
  have kpSb : Kp (Mh h) HSa (upd HSa cS (.tup (csS.map V.int))) := Kp.new ncS
  have hhS := hhSa.new (o := .tup (csS.map V.int)) ncS
  have ecS : (upd HSa cS (.tup (csS.map V.int))) cS = some (.tup (csS.map V.int)) := upd_same
  have kpS : Kp (Mh h) H1 _ := kpSa.trans kpSb
  show tSeq _ _ _ _ (upd HSa cS (.tup (csS.map V.int)))
  generalize upd HSa cS (.tup (csS.map V.int)) = HS at kpSb hhS ecS kpS
  -- tick
  refine ⟨_, rfl, _, rfl, h, sc, _, rfl, hhS, by decide, by decide, fun r1 H2 kp2 hh2 a0 a1 => ?_⟩
  refine ⟨_, rfl, h, sc, _, rfl, hh2, by decide, by decide, fun r2 H3 kp3 hh3 a2 a3 => ?_⟩
  refine ⟨_, _, rfl, rfl, ⟨by decide, by decide, by decide⟩, (by show 3 ≤ sizeLine; decide), fun p1' np1 => ?_⟩
  refine ⟨h, sc, p1', _, rfl, hh3.new np1, SqL.of upd_same, (hh3.neH np1).1, (by show 1 ≤ 3; decide), (by show 3 < 1073741824; decide), fun v1 H4 kp4 hh4 q1 => ?_⟩
  have hv : ∃ m : Int, v1 = .int m := by
    simp only [List.mem_cons, List.not_mem_nil, or_false] at q1
    rcases q1 with q | q | q <;> exact ⟨_, q⟩
  obtain ⟨tk, rfl⟩ := hv
  have kz4 := kp2.trans (kp3.trans ((Kp.new (M := Mh h) np1).trans kp4))
  refine ⟨_, _, rfl, rfl, _, rfl, h, sc, rfl, hh4, fun v2 H5 kp5 hh5 ⟨sd, esd, sd1, sd2⟩ => ?_⟩
  subst esd
  have kp15 := kpS.trans (kz4.trans kp5)
  -- said
  refine ⟨_, rfl, (by show 5 ≤ sizeLine; decide), fun p2 np2 => ?_⟩
  refine ⟨h, sc, p2, _, rfl, hh5.new np2, SqL.of upd_same, (hh5.neH np2).1, by decide, by decide, fun v3 H6 kp6 hh6 q2 => ?_⟩
  have hv3 : ∃ m : Nat, v3 = .int (m : Int) ∧ m ≤ 64 := by
    simp only [List.mem_cons, List.not_mem_nil, or_false] at q2
    rcases q2 with q | q | q | q | q
    · exact ⟨0, q, by decide⟩
    · exact ⟨0, q, by decide⟩
    · exact ⟨1, q, by decide⟩
    · exact ⟨62, q, by decide⟩
    · exact ⟨64, q, by decide⟩
  obtain ⟨ns, rfl, ns1⟩ := hv3
  have kp16 := kp15.trans ((Kp.new (M := Mh h) np2).trans kp6)
  refine ⟨_, rfl, by omega, by omega, fun D2 nD2 => ?_⟩
  rw [Int.toNat_natCast]
  refine lc_range (lo := 0) (n := ns) (fun j H' => Kp (Mh h) H6 H' ∧ Hand H' h sc ∧ ∃ cs : List Int, H' D2 = some (.lst (cs.map V.int)) ∧ cs.length = j) ?_ ?_ ?_
  · exact ⟨Kp.new nD2, hh6.new nD2, [], upd_same, rfl⟩
  · rintro j H8 hj ⟨kp8, hh8, cs, eD, hcs⟩
    refine ⟨rfl, _, rfl, h, sc, rfl, hh8, fun v H9 kp9 hh9 ⟨r, er, _⟩ => ?_⟩
    subst er
    have dh := (hh6.neH nD2)
    have eD9 := kp9.keep _ _ eD dh.1
    have kw : Kp (fun a => a = D2) H9 (upd H9 D2 (.lst (cs.map V.int ++ [.int r]))) := Kp.rfl.set rfl (not_tup eD9 trivial)
    refine ⟨_, eD9, Nat.lt_of_le_of_lt (show (cs.map V.int).length ≤ 100 by rw [List.length_map]; omega) (by decide), (kp8.trans kp9).priv nD2, hh9.keep kw (fun z => dh.1 z.symm) (fun z => dh.2 z.symm), cs ++ [r], ?_, by rw [List.length_append, hcs]; rfl⟩
    rw [upd_same, List.map_append]
    rfl
  rintro HTa ⟨kpTa, hhTa, csT, eDT, hcsT⟩
  refine ⟨D2, _, rfl, .inl ⟨SqL.of eDT, fun cT ncT => ?_⟩⟩
  have kpTb : Kp (Mh h) HTa (upd HTa cT (.tup (csT.map V.int))) := Kp.new ncT
  have hhT := hhTa.new (o := .tup (csT.map V.int)) ncT
  have ecT : (upd HTa cT (.tup (csT.map V.int))) cT = some (.tup (csT.map V.int)) := upd_same
  have kpT : Kp (Mh h) H6 _ := kpTa.trans kpTb
  show tSeq _ _ _ _ (upd HTa cT (.tup (csT.map V.int)))
  generalize upd HTa cT (.tup (csT.map V.int)) = HT at kpTb hhT ecT kpT
  have kp17 := kp16.trans kpT
  -- asked
  refine ⟨(by show 0 ≤ sizeLine; decide), fun fl nf => ?_⟩
  have nfl := hhT.neH nf
  have kpf : Kp (Mh h) HT (upd HT fl (.lst [])) := Kp.new nf
  have hhf := hhT.new (o := .lst []) nf
  have efl : (upd HT fl (.lst [])) fl = some (.lst []) := upd_same
  have ecT2 := kpf.tup _ _ ecT
  have kp18 := kp17.trans kpf
  have H1f : H1 fl = none := hhT.fr kp17 nf
  generalize upd HT fl (.lst []) = H7 at kpf hhf efl ecT2 kp18
  refine ⟨_, rfl, (by show 5 ≤ sizeLine; decide), fun p3 np3 => ?_⟩
  refine ⟨h, sc, p3, _, rfl, hhf.new np3, SqL.of upd_same, (hhf.neH np3).1, by decide, by decide, fun v4 H8 kp8 hh8 q3 => ?_⟩
  have hv4 : ∃ m : Nat, v4 = .int (m : Int) ∧ m ≤ 31 := by
    simp only [List.mem_cons, List.not_mem_nil, or_false] at q3
    rcases q3 with q | q | q | q | q
    · exact ⟨0, q, by decide⟩
    · exact ⟨0, q, by decide⟩
    · exact ⟨1, q, by decide⟩
    · exact ⟨2, q, by decide⟩
    · exact ⟨31, q, by decide⟩
  obtain ⟨na, rfl, na1⟩ := hv4
  have kz8 := (Kp.new (M := Mh h) (o := .lst [.int 0, .int 0, .int 1, .int 2, .int 31]) np3).trans kp8
  have kp19 := kp18.trans kz8
  refine ⟨_, rfl, by omega, by omega, ?_⟩
  rw [Int.toNat_natCast]
  refine for_range (lo := 0) (n := na) (fun i σ' H' => ∃ (k0 k1 k2 : Option V) (avs : List V) (qs : List (List Int)), σ' = [some (.ref h), some v, some (.ref a), some (.int pl), some (.int many), some (.ref bt), some (.ref cS), k0, some (.int (1 + tk)), some (.int sd), some (.ref cT), some (.ref fl), k1, k2, none, none] ∧ Kp (Mh h) H1 H' ∧ Hand H' h sc ∧ KsAt H' a ks ∧ H' fl = some (.lst avs) ∧ All2 (AsAt H') avs qs ∧ qs.length = i ∧ H' cT = some (.tup (csT.map V.int)) ∧ H' cS = some (.tup (csS.map V.int))) ?_ ?_ ?_
  · refine ⟨_, none, none, [], [], rfl, kp19, hh8, (hK.kp kp1 hH.noD ha).kp kp19 hh1.noD ha, kz8.keep _ _ efl nfl.1, trivial, rfl, kz8.tup _ _ ecT2, ?_⟩
    exact kz8.tup _ _ (kpf.tup _ _ (kpT.tup _ _ (kp6.tup _ _ ((Kp.new (M := Mh h) np2).tup _ _ (kp5.tup _ _ (kz4.tup _ _ ecS))))))
  · rintro i σ' H9 hi ⟨k0, k1, k2, avs, qs, rfl, kp9, hh9, hK9, ef9, hA9, hln, eT9, eS9⟩
    have nk9 := hK9
    obtain ⟨us, eA, hA, n1, n8⟩ := hK9
    have hus := hA.len
    refine ⟨_, rfl, _, rfl, a, us, rfl, .inl (SqL.of eA), h, sc, _, rfl, hh9, by omega, by omega, fun kd Ha kpa hha c0 c1 => ?_⟩
    refine ⟨_, rfl, h, sc, rfl, hha, fun w1 Hb kpb hhb ⟨x1, ex1, _⟩ => ?_⟩
    subst ex1
    refine ⟨_, rfl, h, sc, rfl, hhb, fun w2 Hc kpc hhc ⟨x2, ex2, _⟩ => ?_⟩
    subst ex2
    refine ⟨(by show 2 ≤ sizeLine; decide), fun t1 n1' => ?_⟩
    have kp1' : Kp (Mh h) Hc (upd Hc t1 (.tup [.int x1, .int x2])) := Kp.new n1'
    have hh1' := hhc.new (o := .tup [.int x1, .int x2]) n1'
    have e1' : (upd Hc t1 (.tup [.int x1, .int x2])) t1 = some (.tup [.int x1, .int x2]) := upd_same
    have kq1 := kpa.trans (kpb.trans (kpc.trans kp1'))
    have fdh : fl ≠ h := nfl.1
    have ef1 := kq1.keep _ _ ef9 fdh
    refine ⟨_, rfl, .inl ⟨rfl, _, SqL.of ef1⟩, ?_⟩
    refine ⟨_, rfl, (by show 1 ≤ sizeLine; decide), fun t2 n2 => ?_⟩
    have kp2' : Kp (Mh h) (upd Hc t1 (.tup [.int x1, .int x2])) (upd (upd Hc t1 (.tup [.int x1, .int x2])) t2 (.tup [.int kd])) := Kp.new n2
    have hh2' := hh1'.new (o := .tup [.int kd]) n2
    refine ⟨_, rfl, t2, t1, _, _, rfl, rfl, SqT.of upd_same, SqT.of (kp2'.tup _ _ e1'), (by show 3 ≤ sizeLine; decide), fun z => (by cases z), fun _ z => (by cases z), fun _ _ t3 n3 => ?_⟩
    have kp3' : Kp (Mh h) (upd (upd Hc t1 (.tup [.int x1, .int x2])) t2 (.tup [.int kd])) (upd (upd (upd Hc t1 (.tup [.int x1, .int x2])) t2 (.tup [.int kd])) t3 (.tup [.int kd, .int x1, .int x2])) := Kp.new n3
    have hh3' := hh2'.new (o := .tup [.int kd, .int x1, .int x2]) n3
    have e3' : (upd (upd (upd Hc t1 (.tup [.int x1, .int x2])) t2 (.tup [.int kd])) t3 (.tup [.int kd, .int x1, .int x2])) t3 = some (.tup [.int kd, .int x1, .int x2]) := upd_same
    refine ⟨_, rfl, _, rfl, _, _, rfl, rfl, h, sc, _, rfl, hh3', by omega, by omega, fun r5 Hd kpd hhd z0 z1 => ?_⟩
    refine ⟨_, _, rfl, rfl, _, rfl, h, sc, rfl, hhd, fun w3 Hg kpg hhg ⟨x3, ex3, _⟩ => ?_⟩
    subst ex3
    refine ⟨(by show 2 ≤ sizeLine; decide), fun t8 n8' => ?_⟩
    have kp8' : Kp (Mh h) Hg (upd Hg t8 (.tup [.int (r5 - 1), .int x3])) := Kp.new n8'
    have hh8' := hhg.new (o := .tup [.int (r5 - 1), .int x3]) n8'
    refine ⟨t3, t8, _, _, rfl, rfl, SqT.of (kp8'.tup _ _ (kpg.tup _ _ (kpd.tup _ _ e3'))), SqT.of upd_same, (by show 5 ≤ sizeLine; decide), fun z => (by cases z), fun _ z => (by cases z), fun _ _ t9 n9 => ?_⟩
    have kp9' : Kp (Mh h) (upd Hg t8 (.tup [.int (r5 - 1), .int x3])) (upd (upd Hg t8 (.tup [.int (r5 - 1), .int x3])) t9 (.tup [.int kd, .int x1, .int x2, .int (r5 - 1), .int x3])) := Kp.new n9
    have hh9' := hh8'.new (o := .tup [.int kd, .int x1, .int x2, .int (r5 - 1), .int x3]) n9
    have e9 : (upd (upd Hg t8 (.tup [.int (r5 - 1), .int x3])) t9 (.tup [.int kd, .int x1, .int x2, .int (r5 - 1), .int x3])) t9 = some (.tup [.int kd, .int x1, .int x2, .int (r5 - 1), .int x3]) := upd_same
    have kpz := kq1.trans (kp2'.trans (kp3'.trans (kpd.trans (kpg.trans (kp8'.trans kp9')))))
    show tNil _ (upd (upd Hg t8 (.tup [.int (r5 - 1), .int x3])) t9 (.tup [.int kd, .int x1, .int x2, .int (r5 - 1), .int x3])) _
    generalize upd (upd Hg t8 (.tup [.int (r5 - 1), .int x3])) t9 (.tup [.int kd, .int x1, .int x2, .int (r5 - 1), .int x3]) = He at kp9' hh9' e9 kpz
    have efz := kpz.keep _ _ ef9 fdh
    have hvl := hA9.len
    have kw : Kp (fun a => a = fl) He (upd He fl (.lst (avs ++ [.ref t9]))) := Kp.rfl.set rfl (not_tup efz trivial)
    have ndw : NoD (fun a => a = fl) He := fun b kvs e z => by
      rw [z, efz] at e
      cases e
    have afl : a ≠ fl := by
      intro z
      obtain ⟨us', e', _⟩ := (hK.kp kp1 hH.noD ha)
      rw [z, H1f] at e'
      cases e'
    refine ⟨fl, avs, .ref t9, rfl, rfl, efz, Nat.lt_of_le_of_lt (show avs.length ≤ 100 by omega) (by decide), ?_⟩
    refine ⟨_, _, _, avs ++ [.ref t9], qs ++ [[kd, x1, x2, r5 - 1, x3]], rfl, (kp9.trans kpz).priv H1f, hh9'.keep kw (fun z => nfl.1 z.symm) (fun z => nfl.2 z.symm), (nk9.kp kpz hh9.noD ha).kp kw ndw afl, upd_same, ?_, by rw [List.length_append, hln]; rfl, kw.tup _ _ (kpz.tup _ _ eT9), kw.tup _ _ (kpz.tup _ _ eS9)⟩
    exact All2.snoc (hA9.mono fun v x q => (q.kp kpz).kp kw) ⟨rfl, t9, rfl, kw.tup _ _ e9⟩
  · rintro σ' H9 ⟨k0, k1, k2, avs, qs, rfl, kp9, hh9, hK9, ef9, hA9, hln, eT9, eS9⟩
    have hB9 : All2 (BoAt H9) bvs bs := hB.mono fun v x q => q.kp kp9
    have eb9 := kp9.tup _ _ eb
    refine ⟨_, rfl, bt, rfl, ⟨bvs, SqT.of eb9⟩, fun D3 nD3 => ?_⟩
    refine lc_tup (xs := bvs) (fun j H' => Kp (Mh h) H9 H' ∧ Hand H' h sc ∧ ∃ ls : List Int, H' D3 = some (.lst (ls.map V.int)) ∧ ls.Sublist ((bs.take j).map (·.num)) ∧ ls.length ≤ j) ?_ ?_ ?_ ?_
    · exact ⟨Kp.new nD3, hh9.new nD3, [], upd_same, List.Sublist.refl _, Nat.le_refl _⟩
    · rintro i H' _ ⟨kp', _, _⟩
      exact SqT.of (kp'.tup _ _ eb9)
    · rintro j x Ha hx ⟨kpa, hha, ls, eD, hsub, hln'⟩
      obtain ⟨b, eb', ⟨tb, cb, rfl, etb, _⟩⟩ := hB9.getL hx
      refine ⟨rfl, _, rfl, h, sc, _, rfl, hha, by decide, by decide, fun r Hb kpb hhb c0 c1 => ?_⟩
      have etk : (bs.take (j + 1)) = bs.take j ++ [b] := by
        rw [List.take_add_one, eb']
        rfl
      have dh := hh9.neH nD3
      have eDb := kpb.keep _ _ eD dh.1
      refine ⟨rfl, _, rfl, hit (fun cc => ?_) (fun cc => ?_)⟩
      · refine ⟨_, rfl, tb, _, 0, _, rfl, rfl, SqT.of (kpb.tup _ _ (kpa.tup _ _ etb)), rfl, ?_⟩
        have kw : Kp (fun a => a = D3) Hb (upd Hb D3 (.lst (ls.map V.int ++ [.int b.num]))) := Kp.rfl.set rfl (not_tup eDb trivial)
        have hjl : j < bvs.length := (List.getElem?_eq_some_iff.mp hx).1
        have hb5 := hbok.len
        have hbl := hB.len
        refine ⟨_, eDb, Nat.lt_of_le_of_lt (show (ls.map V.int).length ≤ 100 by rw [List.length_map]; omega) (by decide), (kpa.trans kpb).priv nD3, hhb.keep kw (fun z => dh.1 z.symm) (fun z => dh.2 z.symm), ls ++ [b.num], ?_, ?_, ?_⟩
        · rw [upd_same, List.map_append]
          rfl
        · rw [etk, List.map_append]
          exact hsub.append (List.Sublist.refl _)
        · rw [List.length_append]
          show ls.length + 1 ≤ j + 1
          omega
      · refine ⟨kpa.trans kpb, hhb, ls, eDb, ?_, by omega⟩
        rw [etk, List.map_append]
        exact hsub.trans (List.sublist_append_left _ _)
    rintro Ha ⟨kpa, hha, ls, eD, hsub, hln'⟩
    have hbl := hB.len
    have hb5 := hbok.len
    refine ⟨D3, _, rfl, .inl ⟨SqL.of eD, fun t nt => ?_⟩⟩
    have kt : Kp (Mh h) Ha (upd Ha t (.tup (ls.map V.int))) := Kp.new nt
    have hht := hha.new (o := .tup (ls.map V.int)) nt
    have kz := kpa.trans kt
    refine ⟨_, rfl, _, rfl, _, rfl, _, rfl, _, rfl, _, rfl, fl, _, rfl, .inl ⟨SqL.of (kz.keep _ _ ef9 nfl.1), fun q nq => ?_⟩⟩
    have kq : Kp (Mh h) _ (upd (upd Ha t (.tup (ls.map V.int))) q (.tup avs)) := Kp.new nq
    have hhq := hht.new (o := .tup avs) nq
    refine ⟨_, rfl, (by show 7 ≤ sizeLine; decide), fun f nf' => ?_⟩
    have kf : Kp (Mh h) _ (upd (upd (upd Ha t (.tup (ls.map V.int))) q (.tup avs)) f (.tup [.int (1 + tk), .int sd, .ref cS, .ref bt, .ref cT, .ref q, .ref t])) := Kp.new nf'
    have kall := kz.trans (kq.trans kf)
    refine k _ _ (kp1.trans (kp9.trans kall)) (hhq.new nf') ⟨⟨1 + tk, sd, csS, bs, csT, qs, ls⟩, ⟨f, cS, bt, cT, q, t, rfl, upd_same, ⟨kall.tup _ _ eS9, ⟨bvs, kall.tup _ _ eb9, hB9.mono fun v x q => q.kp kall⟩, kall.tup _ _ eT9, ⟨avs, kf.tup _ _ upd_same, hA9.mono fun v x q => q.kp kall⟩, kf.tup _ _ (kq.tup _ _ upd_same)⟩⟩, ⟨hcsS, hbok, by show csT.length ≤ 64; omega, by show qs.length ≤ 32; omega, ?_, by show ls.length ≤ 5 + 0; omega, by show 0 ≤ sd; omega, sd2⟩⟩
    refine List.Pairwise.sublist (hsub.trans ?_) hbok.asc
    exact (List.take_sublist _ _).map _
end
end G
set_option Elab.async false
set_option linter.all false
set_option maxRecDepth 100000
set_option maxHeartbeats 4000000
namespace G
open PySem PySem.Spec PyProof.Rows L2
def EventAt (H : Hp) (u : V) (n : Int) (e : Ev) (o sd : Int) : Prop := ∃ t, u = .ref t ∧ H t = some (.tup [.int n, .str e.str, .int o, .int sd])
theorem EventAt.kp {M : Addr → Prop} {H H' : Hp} (k : Kp M H H') {u : V} {n : Int} {e : Ev} {o sd : Int} (h : EventAt H u n e o sd) : EventAt H' u n e o sd := by
  obtain ⟨t, h1, h2⟩ := h
  exact ⟨t, h1, k.tup _ _ h2⟩
def spEvent : Sp := fun vs H Q _ => ∃ (h sc : Addr) (v : V) (p : Pts), vs = [.ref h, v] ∧ Hand H h sc ∧ PtsAt H v p ∧ 1 ≤ p.bs.length ∧ p.bs.length ≤ 5 ∧
  Gn h sc H Q fun u H' => ∃ n e o sd, EventAt H' u n e o sd ∧ n ∈ p.bs.map (·.num)
section
variable {P : Program} {w : World} {K : PySem.W.Frag} {mg : Str → Option Value} {base : Heap}
theorem scl_event : FnScope ["_law_hand_here", "_law_parts", "_law_ids", "_law_body_here", "_law_number", "_law_way", "_law_others", "_law_k"] ["_law_hand_here", "_law_parts"] (defScope sl_event) := ⟨rfl, rfl, rfl, by decide +kernel, rfl, by decide +kernel, by decide +kernel⟩
theorem ok_l_event (T : Tx w K mg) : Cal P w K mg base "_law_event" 4 ["_law_hand_here", "_law_parts"] spEvent := by
  obtain ⟨fd, F⟩ : ∃ fd, Fun K "_law_event" "_law_event" sl_event 1064 fd := T.fn 114 _ rfl
  refine T.cal F 173 rfl (fun _ _ _ _ _ _ us hl => match us, hl with | [_, _], _ => rfl) ?_
  refine F.ok scl_event (fun vs H Q E h => ?_) (fun cdv A outer s H vs Q E hr h => ?_)
  · obtain ⟨h, sc, v, p, rfl, _⟩ := h
    rfl
  obtain ⟨h, sc, v, p, rfl, hH, ⟨t, sh, bo, sa, as, lv, rfl, et, hp⟩, n1, n5, k⟩ := h
  refine ⟨_, (pss_cons (ps_setLc (i := 2) (own := [("_law_body_here", 3)]) (g := gName 3) (by rfl) scl_event.nd rfl rfl (sw_true rfl rfl rfl (by decide +kernel)) (pi_tup (pe_ix ix_tup (pv 1) pe_int (fun _ _ => rfl))) (blkOk_by (own := [("_law_body_here", 3)]) (N := ["_law_hand_here", "_law_parts", "_law_ids", "_law_body_here", "_law_number", "_law_way", "_law_others", "_law_k"]) (sc := defScope sl_event) (by decide +kernel)) (fun _ _ _ _ _ => pg_name (i := 3) scl_event.nd rfl (Or.inl rfl)) (fun _ _ _ _ _ => pts_nil) (fun _ _ _ _ _ => (pe_ix (show IxR _ (rIxT K) from ix_tup) (pv 3) pe_int (fun _ _ => rfl))))
    (pss_cons (ps_set (i := 4) scl_event.nd rfl (Or.inr rfl) (pe_k (ok_l_pick T) (hr.mono (by decide)) (pa_cons (pv 0) (pa_cons (pv 2) pa_nil))))
    (pss_cons (ps_set (i := 5) scl_event.nd rfl (Or.inl rfl) (pe_k (ok_l_take T) (hr.mono (by decide)) (pa_cons (pv 0) (pa_cons pe_int pa_nil))))
    (pss_cons (ps_setLc (i := 6) (own := [("_law_k", 7)]) (g := gName 7) (by rfl) scl_event.nd rfl rfl (sw_true rfl rfl rfl (by decide +kernel)) (pi_list (pv 2)) (blkOk_by (own := [("_law_k", 7)]) (N := ["_law_hand_here", "_law_parts", "_law_ids", "_law_body_here", "_law_number", "_law_way", "_law_others", "_law_k"]) (sc := defScope sl_event) (by decide +kernel)) (fun _ _ _ _ _ => pg_name (i := 7) scl_event.nd rfl (Or.inl rfl)) (fun _ _ _ _ _ => (pts_one (pt_cmpR op_ne (pv 7) (pv 4) (nomark _)))) (fun _ _ _ _ _ => (pv 7)))
    (pss_cons (ps_if (pt_cmpR op_eq (pv 5) pe_int (nomark _)) (pss_one (ps_ret (pe_tup (pa_cons (pv 4) (pa_cons pe_str (pa_cons (pe_un un_neg pe_int) (pa_cons (pe_k (ok_l_pick T) (hr.mono (by decide)) (pa_cons (pv 0) (pa_cons (pe_lst (pa_cons pe_int (pa_cons pe_int (pa_cons pe_int (pa_cons pe_int (pa_cons pe_int (pa_cons pe_int (pa_cons pe_int (pa_cons pe_int pa_nil))))))))) pa_nil))) pa_nil))))))) pss_nil)
    (pss_cons (ps_if (PW.pt (pw_and (pt_cmpR op_eq (pv 5) pe_int (nomark _)) (pw_and1 (pt_cmpR op_gt (pe_callB call_len_seq rfl (fr_len T) (by decide +kernel) (pa_cons (pv 6) pa_nil)) pe_int (nomark _))))) (pss_one (ps_ret (pe_tup (pa_cons (pv 4) (pa_cons pe_str (pa_cons (pe_k (ok_l_pick T) (hr.mono (by decide)) (pa_cons (pv 0) (pa_cons (pv 6) pa_nil))) (pa_cons pe_int pa_nil))))))) pss_nil)
    (pss_one (ps_ret (pe_tup (pa_cons (pv 4) (pa_cons pe_str (pa_cons (pe_un un_neg pe_int) (pa_cons pe_int pa_nil))))))))))))), ?_⟩
  obtain ⟨bvs, eb, hB⟩ := hp.bo
  have hbl := hB.len
  refine ⟨_, rfl, t, _, 3, _, rfl, rfl, SqT.of et, rfl, bo, rfl, ⟨_, SqT.of eb⟩, fun D nD => ?_⟩
  have dh := hH.neH nD
  refine lc_tup (xs := bvs) (fun j H' => Kp M0 H H' ∧ H' D = some (.lst (((p.bs.take j).map (·.num)).map V.int)) ∧ j ≤ bvs.length) ?_ ?_ ?_ ?_
  · exact ⟨Kp.new nD, upd_same, Nat.zero_le _⟩
  · rintro i H' _ ⟨kp', _, _⟩
    exact SqT.of (kp'.tup _ _ eb)
  · rintro j x Ha hx ⟨kpa, eD, hj⟩
    obtain ⟨b, eb', ⟨tb, cb, rfl, etb, _⟩⟩ := hB.getL hx
    have hjl := (List.getElem?_eq_some_iff.mp hx).1
    refine ⟨rfl, _, rfl, tb, _, 0, _, rfl, rfl, SqT.of (kpa.tup _ _ etb), rfl, _, eD, Nat.lt_of_le_of_lt (show _ ≤ 100 by rw [List.length_map, List.length_map, List.length_take]; omega) (by decide), kpa.priv nD, ?_, hjl⟩
    rw [upd_same, List.take_add_one, eb', List.map_append, List.map_append]
    rfl
  rintro Ha ⟨kpa, eD, hj⟩
  rw [show bvs.length = p.bs.length from hbl, List.take_length] at eD
  have hha := hH.keep kpa id id
  have kp0 : Kp (Mh h) H Ha := kpa.weak fun _ z => z.elim
  have ln : ((p.bs.map (·.num)).map V.int).length = p.bs.length := by rw [List.length_map, List.length_map]
  refine ⟨_, rfl, _, rfl, h, sc, D, _, rfl, hha, SqL.of eD, dh.1, by rw [ln]; exact n1, by rw [ln]; omega, fun u Hb kpb hhb mem => ?_⟩
  obtain ⟨n, hn, rfl⟩ := List.mem_map.mp mem
  have eDb := kpb.keep _ _ eD dh.1
  refine ⟨_, rfl, h, sc, _, rfl, hhb, by decide, by decide, fun wy Hc kpc hhc c0 c1 => ?_⟩
  have eDc := kpc.keep _ _ eDb dh.1
  refine ⟨_, rfl, D, rfl, ⟨_, SqL.of eDc⟩, fun D2 nD2 => ?_⟩
  have dh2 := hhc.neH nD2
  have ne2 : D ≠ D2 := ne_of_none eDc nD2
  refine lc_list (xs := (p.bs.map (·.num)).map V.int) (fun j H' => Kp M0 Hc H' ∧ H' D = some (.lst ((p.bs.map (·.num)).map V.int)) ∧ ∃ os : List Int, H' D2 = some (.lst (os.map V.int)) ∧ os.length ≤ j) ?_ ?_ ?_ ?_
  · exact ⟨Kp.new nD2, by rw [upd_ne ne2]; exact eDc, [], upd_same, Nat.le_refl _⟩
  · rintro i H' _ ⟨_, e, _⟩
    exact SqL.of e
  · rintro j x Hd hx ⟨kpd, e1, os, e2, hl⟩
    have hjl := (List.getElem?_eq_some_iff.mp hx).1
    obtain ⟨m, em, rfl⟩ : ∃ m : Int, (p.bs.map (·.num))[j]? = some m ∧ V.int m = x := by
      rw [List.getElem?_map] at hx
      cases q : (p.bs.map (·.num))[j]? with
      | none => rw [q] at hx; cases hx
      | some m => rw [q] at hx; exact ⟨m, rfl, Option.some.inj hx⟩
    refine ⟨rfl, _, rfl, _, rfl, rfl, _, rfl, hit (fun cc => ?_) (fun cc => ?_)⟩
    · refine ⟨_, rfl, _, e2, Nat.lt_of_le_of_lt (show (os.map V.int).length ≤ 100 by rw [List.length_map]; omega) (by decide), kpd.priv nD2, by rw [upd_ne ne2]; exact e1, os ++ [m], ?_, by rw [List.length_append]; show os.length + 1 ≤ j + 1; omega⟩
      rw [upd_same, List.map_append]
      rfl
    · exact ⟨kpd, e1, os, e2, by omega⟩
  rintro Hd ⟨kpd, e1, os, e2, hl⟩
  rw [ln] at hl
  have hhd := hhc.keep kpd id id
  have kp1 : Kp (Mh h) H Hd := kp0.trans (kpb.trans (kpc.trans (kpd.weak fun _ z => z.elim)))
  refine ⟨_, rfl, rfl, _, rfl, ite2 (fun c => ?_) (fun c => ?_)⟩
  · refine ⟨_, rfl, _, rfl, _, rfl, (by show 8 ≤ sizeLine; decide), fun q nq => ?_⟩
    refine ⟨h, sc, q, _, rfl, hhd.new nq, SqL.of upd_same, (hhd.neH nq).1, by decide, by decide, fun v4 H8 kp8 hh8 q3 => ?_⟩
    have hv4 : ∃ m : Int, v4 = .int m := by
      simp only [List.mem_cons, List.not_mem_nil, or_false] at q3
      rcases q3 with q | q | q | q | q | q | q | q <;> exact ⟨_, q⟩
    obtain ⟨m, rfl⟩ := hv4
    refine ⟨(by show 4 ≤ sizeLine; decide), fun f nf => ?_⟩
    exact k _ _ (kp1.trans ((Kp.new (M := Mh h) nq).trans (kp8.trans (Kp.new nf)))) (hh8.new nf) ⟨n, .wall, _, _, ⟨f, rfl, upd_same⟩, hn⟩
  have dh2d := hhd
  have lst : ∀ (f : Addr), Hd f = none → Q (.ref f) (upd Hd f (.tup [.int n, .str Ev.tick.str, .int (-1), .int 0])) := fun f nf =>
    k _ _ (kp1.trans (Kp.new nf)) (hhd.new nf) ⟨n, .tick, _, _, ⟨f, rfl, upd_same⟩, hn⟩
  refine ⟨_, rfl, rfl, _, rfl, ite2 (fun c2 => ?_) (fun c2 => ?_)⟩
  · refine ⟨_, rfl, D2, _, rfl, .inl (SqL.of e2), _, _, rfl, rfl, _, rfl, ite2 (fun c3 => ?_) (fun c3 => ?_)⟩
    · have c3' : (0 : Int) < ((os.map V.int).length : Nat) := of_decide_eq_true c3
      refine ⟨_, rfl, _, rfl, _, rfl, h, sc, D2, _, rfl, hhd, SqL.of e2, dh2.1, by omega, by rw [List.length_map]; omega, fun v4 H8 kp8 hh8 mem4 => ?_⟩
      obtain ⟨m, _, rfl⟩ := List.mem_map.mp mem4
      refine ⟨(by show 4 ≤ sizeLine; decide), fun f nf => ?_⟩
      exact k _ _ (kp1.trans (kp8.trans (Kp.new nf))) (hh8.new nf) ⟨n, .touch, _, _, ⟨f, rfl, upd_same⟩, hn⟩
    · exact ⟨_, rfl, _, rfl, (by show 4 ≤ sizeLine; decide), lst⟩
  · exact iteF ⟨_, rfl, _, rfl, (by show 4 ≤ sizeLine; decide), lst⟩
end
end G
set_option Elab.async false
set_option linter.all false
set_option maxRecDepth 100000
set_option maxHeartbeats 4000000
/-! ### enumerate over a tuple -/
namespace PySem
open Sem (wp)
open AutoSeq1 (wpAny_loadPart')
theorem meets_enumerate_newTu (l : Addr) (items : Array Value) :
    Meets (Builtin.«enumerate.__new__» ⟨[.type "enumerate", .ref l], []⟩) (fun _ R s => s.heap.IsTuple l items ∧
      R (.ok (.ret (.ref (s.heap.push { cls := .type "tuple_iterator", data := .fields #[.ref l, .int 0 0] }).objs.size)))
        { s with heap := (s.heap.push { cls := .type "tuple_iterator", data := .fields #[.ref l, .int 0 0] }).push { cls := .type "enumerate", data := .fields #[.none, .bool false, .ref s.heap.objs.size, rawInt 0, .none, .none] } }) :=
  .of_wp fun prog w A R s h => by
    obtain ⟨hp, g, d, tk, os⟩ := s; obtain ⟨hL, h⟩ := h
    have hsub := sub_enumerate
    have q1 : ∀ {A' : Around} {E : Value → Shared → Prop} {Q : Value → Shared → Prop}, Q (.ref hp.objs.size) ⟨hp.push { cls := .type "tuple_iterator", data := .fields #[.ref l, .int 0 0] }, g, d, tk, os⟩ → wpAny (model prog w) A' (pyIter (.ref l)) Q E ⟨hp, g, d, tk, os⟩ :=
      fun q => wpAny_pyIter_tuple hL q
    wp_walk using q1
    refine wpAny_stack_any fun st => wpAny_pure ?_
    split
    · rename_i c _ _ _ _ _
      cases (c == Value.type "enumerate")
      · wp_walk using q1
        exact ⟨_, rfl, h⟩
      · wp_walk using q1
        exact ⟨_, rfl, h⟩
    · wp_walk using q1
      exact ⟨_, rfl, h⟩
theorem call_enumerate_tuple {prog : Program} {w : World} {A : Around} {E : Value → Shared → Prop} {s : Shared} {l : Addr} {items : Array Value} {Q : Value → Shared → Prop} (hL : s.heap.IsTuple l items)
    (h : ∀ h', IsEnum h' (s.heap.objs.size + 1) s.heap.objs.size 0 .none → h'.IsTupleIter s.heap.objs.size l 0 → h'.objs.size = s.heap.objs.size + 2 →
      (∀ b o, s.heap.get? b = some o → h'.get? b = some o) → Q (.ref (s.heap.objs.size + 1)) { s with heap := h' }) :
    wpAny (model prog w) A (call (.type "enumerate") [.ref l]) Q E s := by
  refine callType_new F.called_enumerate (by decide) (F.typeCall_enumerate_1 _) (F.newCall_enumerate_1 _) (fun obj => F.args_object_init_2 obj _) F.entry_enumerate_new
    (meets_enumerate_newTu l items) ⟨hL, ?_⟩
  have hz : (s.heap.push { cls := .type "tuple_iterator", data := .fields #[.ref l, .int 0 0] }).objs.size = s.heap.objs.size + 1 := Heap.size_push ..
  show _ ∧ _
  rw [hz]
  have he : IsEnum ((s.heap.push { cls := .type "tuple_iterator", data := .fields #[.ref l, .int 0 0] }).push
      { cls := .type "enumerate", data := .fields #[.none, .bool false, .ref s.heap.objs.size, rawInt 0, .none, .none] }) (s.heap.objs.size + 1) s.heap.objs.size 0 .none := by
    have := Heap.get?_push_size (s.heap.push { cls := .type "tuple_iterator", data := .fields #[.ref l, .int 0 0] })
      (o := { cls := .type "enumerate", data := .fields #[.none, .bool false, .ref s.heap.objs.size, rawInt 0, .none, .none] }) rfl
    rw [hz] at this; exact this
  refine ⟨⟨_, he, rfl⟩, h _ he ⟨_, Heap.get?_push_of_some _ (Heap.get?_push_size _ rfl), rfl, rfl⟩ (by rw [Heap.size_push, hz]) fun b o x => Heap.get?_push_of_some _ (Heap.get?_push_of_some _ x)⟩
end PySem
namespace G
open PySem PySem.Spec PyProof.Rows L2
/-- the tuple at a, each item in a new pair -/
def IteT (K : PySem.W.Frag) (a : Addr) : It :=
  ⟨fun i H => ∃ (xs : List V) (x : V), SqT K H a xs ∧ xs[i]? = some x, fun i H v H' => ∃ T x, v = .ref T ∧ H T = none ∧ H' = upd H T (.tup [.int (i : Nat), x]) ∧ ∀ xs, SqT K H a xs → xs[i]? = some x, fun i H => ∃ xs : List V, SqT K H a xs ∧ xs.length = i⟩
theorem turn_enumT {P : Program} {w : World} {K : PySem.W.Frag} {elts : List Expr} {kk : Nat} {tpos : Pos} (a e it : Addr) :
    Turn P w K (.Tuple elts kk tpos) (IteT K a) [e, it] e (fun i h => (∃ old, IsEnum h e it ((i : Nat) : Int) old) ∧ h.IsTupleIter it a i ∧ e ≠ it ∧ a ≠ it ∧ e ≠ a) where
  mem := by simp
  obj := fun i h st b hb => by
    obtain ⟨⟨old, he⟩, ⟨o, ho, hc, hd⟩, _⟩ := st
    have e' : b = e ∨ b = it := by simpa using hb
    rcases e' with z | z
    · rw [z]; exact ⟨_, he, fun v q => nomatch q⟩
    · rw [z]; exact ⟨o, ho, fun v q => by rw [hd] at q; cases q⟩
  keep := fun i h h' st k => let ⟨⟨old, he⟩, hi, hne⟩ := st; ⟨⟨old, k e (by simp) _ he⟩, hi.at fun o q => k it (by simp) o q, hne⟩
  item := by
    intro X hP hw hK hc i pins s σ H E I hf st hg
    subst hP hw hK
    obtain ⟨⟨old, he⟩, hit, hne, hat, hea⟩ := st
    obtain ⟨xs, x, hq, hx⟩ := hg
    obtain ⟨its, rv, p, hz⟩ := I.tuple hq
    obtain ⟨u, hu, ru⟩ := rv.get hx
    have hel : e < s.heap.objs.size := Heap.lt_size he
    have hil : it < s.heap.objs.size := by obtain ⟨_, q, _⟩ := hit; exact Heap.lt_size q
    have hil2 : i < its.toArray.size := by
      have := (List.getElem?_eq_some_iff.mp hu).1
      simpa using this
    have hef : e ∉ [it, a] := by simp [hne, hea]
    refine wpAny_pyNext_enum_itemC (Draws.tuple (A := X.A.in1) (by first | exact I.ok.hd hc | rfl) it a hat its.toArray) he ⟨hit, p⟩ hil2 hne hef fun x1 h' tk hP1 ho hst' hT hsz hk => ?_
    have ex : x1 = u := by
      have q : its.toArray[i]? = some x1 := hP1
      rw [show its.toArray[i]? = its[i]? by simp, hu] at q
      exact (Option.some.inj q).symm
    subst ex
    obtain ⟨hit', _⟩ := hst'
    refine ⟨_, rfl, wpAny_letOwnedTupleGo_enum (s := { s with heap := h', toks := tk + 1 }) ho fun h'' he' sb => ?_⟩
    have hT2 : h''.get? s.heap.objs.size = some { cls := .type "tuple", data := .seq #[.int i tk, x1] } := (sb.2 _ (Nat.ne_of_gt hel)).trans hT
    have new : ObjOk X.prog X.w (upd H s.heap.objs.size (.tup [.int (i : Nat), x])) h'' s.heap.objs.size (.tup [.int (i : Nat), x]) :=
      ⟨by show 2 ≤ sizeLine; decide, [.int i tk, x1], .cons ⟨_, rfl⟩ (.cons ru .nil), ⟨_, hT2, rfl, _, rfl⟩⟩
    have I1 : Inv X pins σ (upd H s.heap.objs.size (.tup [.int (i : Nat), x])) { s with heap := h'', toks := tk + 1 } :=
      I.turnedNew (ch := [e, it]) (fun b ob hb q => (sb.2 b (fun z => hb (by simp [z]))).trans (hk b ob (fun z => hb (by simp [z])) (fun z => hb (by simp [z])) q)) hf (Nat.le_refl _) new
    refine ⟨.ref s.heap.objs.size, _, I1, rfl, ⟨_, x, rfl, I.hok.fresh (Nat.le_refl _), rfl, fun ys hy => by rw [I.tuple_inj hy hq]; exact hx⟩, ⟨⟨x1, ?_⟩, hit'.at fun o q => (sb.2 it (Ne.symm hne)).trans q, hne, hat, hea⟩, fun b hb => ?_⟩
    · have e1 : ((i + 1 : Nat) : Int) = (i : Int) + 1 := by omega
      rw [e1]; exact he'
    · have hb' : b < s.heap.objs.size := by
        have e' : b = e ∨ b = it := by simpa using hb
        rcases e' with z | z
        · rw [z]; exact hel
        · rw [z]; exact hil
      rw [upd_ne (Nat.ne_of_lt hb')]
      exact (hf b hb).1
  done := by
    intro X hP hw hK hc i pins s σ H E I hf st hg
    subst hP hw hK
    obtain ⟨⟨old, he⟩, hit, hne, hat, hea⟩ := st
    obtain ⟨xs, hq, hx⟩ := hg
    obtain ⟨its, rv, p, hz⟩ := I.tuple hq
    obtain ⟨f0, f1, f2, f3, f4, f5⟩ := hf it (by simp)
    have hl := rv.length
    have hi : i = its.toArray.size := by simp; omega
    subst hi
    exact wpAny_pyNext_enum_endD (Draws.tuple (A := X.A.in1) (by first | exact I.ok.hd hc | rfl) it a hat its.toArray) he ⟨hit, p⟩ fun h' eb => ⟨rfl, I.turned (t' := s.toks) (fun b o hb q => eb b o hb q) f0 f1 f3 f4 f5⟩
  self := fun A i s Q E st h => let ⟨⟨_, he⟩, _⟩ := st; wpAny_pyIter_enum he h
def iEnumT (K : PySem.W.Frag) (ta : TA) : TI := fun σ H R => ta σ H fun vs H1 => ∃ a xs, vs = [.ref a] ∧ SqT K H1 a xs ∧ R (IteT K a) H1
theorem pi_enumT {X : Cx} {e : Expr} {ta : TA} {p pos tpos : Pos} {elts : List Expr} {kk : Nat} (hg : Gl X "enumerate") (hm : X.mg "enumerate" = none) (ha : PA X [e] ta) (hs : starEach [e] X.env = [(false, eval e X.env)] := by rfl) :
    PI X (.Tuple elts kk tpos) (.Call (.Name "enumerate" p) [e] [] pos) (iEnumT X.K ta) := by
  refine ⟨fun pins s σ H R I h => ?_⟩
  refine Call_ (ld_blt I hg hm boot_enumerate (PyProof.Rows.callWith_type1 (thn (ha.run pos pins s σ H _ I h) fun us s1 ⟨vs, H1, I1, r1, q1⟩ => ?_) hs rfl))
  obtain ⟨a, xs, ex, hq, q⟩ := q1
  subst ex
  cases r1 with
  | cons r rr =>
    cases rr
    cases r
    obtain ⟨its, rv, p', hz⟩ := I1.tuple hq
    have hal : a < s1.heap.objs.size := by obtain ⟨_, z, _⟩ := p'; exact Heap.lt_size z
    refine call_enumerate_tuple p' fun h' he hit hsz hk => wpAny_pyIter_enum he ?_
    have I2 : Inv X pins σ H1 { s1 with heap := h' } := I1.kept (t' := s1.toks) hk
    refine ⟨s1.heap.objs.size + 1, [s1.heap.objs.size + 1, s1.heap.objs.size], _, _, H1, rfl, I2, turn_enumT a (s1.heap.objs.size + 1) s1.heap.objs.size, ⟨⟨.none, he⟩, hit, Nat.succ_ne_self _, Nat.ne_of_lt hal, Nat.ne_of_gt (Nat.lt_succ_of_lt hal)⟩, fun b hb => ?_, q⟩
    have e' : b = s1.heap.objs.size + 1 ∨ b = s1.heap.objs.size := by simpa using hb
    have hle : s1.heap.objs.size ≤ b := by
      rcases e' with z | z
      · rw [z]; exact Nat.le_add_right _ _
      · rw [z]; exact Nat.le_refl _
    exact I1.fpOk hle (I1.hok.fresh hle)
/-- a loop over the pairs -/
theorem for_enumT {K : PySem.W.Frag} {a : Addr} {xs : List V} {g : TG} {tb : TS} {D : Ends} {σ : L2.St} {H : Hp} (Pv : Nat → L2.St → Hp → Prop) (h0 : Pv 0 σ H) (hl : ∀ i σ H, i ≤ xs.length → Pv i σ H → SqT K H a xs)
    (hs : ∀ i x σ H p, xs[i]? = some x → Pv i σ H → H p = none → g (.ref p) σ (upd H p (.tup [.int (i : Nat), x])) fun σ2 H2 => tb { D with nx := Pv (i + 1), ct := Pv (i + 1), bk := D.nx } σ2 H2) (hd : ∀ σ H, Pv xs.length σ H → D.nx σ H) :
    ∃ W : Nat → Nat → L2.St → Hp → Prop, (∃ m, W 0 m σ H) ∧ ∀ i m σ H, W i m σ H →
      ((IteT K a).stop i H ∧ D.nx σ H) ∨ ((IteT K a).go i H ∧ ∃ N : L2.St → Hp → Prop, (∀ σ' H', N σ' H' → ∃ m', m' < m ∧ W (i + 1) m' σ' H') ∧ ∀ x H', (IteT K a).yld i H x H' → g x σ H' fun σ2 H2 => tb { D with nx := N, ct := N, bk := D.nx } σ2 H2) := by
  refine ⟨fun i m σ H => m = xs.length - i ∧ i ≤ xs.length ∧ Pv i σ H, ⟨xs.length, by simp, Nat.zero_le _, h0⟩, ?_⟩
  rintro i m σ H ⟨rfl, hi, p⟩
  have q := hl i σ H hi p
  by_cases hlt : i < xs.length
  · refine .inr ⟨⟨xs, xs[i], q, List.getElem?_eq_getElem hlt⟩, Pv (i + 1), fun σ' H' p' => ⟨xs.length - (i + 1), by omega, rfl, hlt, p'⟩, fun x H' y => ?_⟩
    obtain ⟨T, x1, e1, hT, e2, hx⟩ := y
    subst e1 e2
    exact hs i x1 σ H T (hx xs q) p hT
  · have hh : i = xs.length := by omega
    subst hh
    exact .inl ⟨⟨xs, q, rfl⟩, hd σ H p⟩
end G
set_option Elab.async false
set_option linter.all false
set_option maxRecDepth 100000
set_option maxHeartbeats 4000000
namespace G
open PySem PySem.Spec PyProof.Rows L2
section
variable {w : World} {K : PySem.W.Frag} {mg : Str → Option Value} {H : Hp} {Q : VK} {x : V} {a C dx : Addr} {fs : List (Str × V)} {xs : List V}
theorem isi_b {a b : String} {r : Bool} (hx : TyX K H x (.type a)) (h : kitB a b = some r) (q : Q (.bl r) H) : rIsi K [x, .ty b] H Q := ⟨x, .ty b, .type a, .type b, r, rfl, .ty b, hx, kit_ty h, q⟩
theorem isi_own (T : Tx w K mg) (hC : C ∈ clsL) (e : H a = some (.ins C dx fs)) (q : Q (.bl true) H) : rIsi K [.ref a, .ref C] H Q :=
  ⟨_, _, .ref C, .ref C, true, rfl, .own C, .base (.ins e (T.cl C hC) (T.ic C hC).ha (T.ic C hC).hn (T.ic C hC).htk (T.ic C hC).hm), by unfold PySem.W.kitOne; rw [if_pos (beq_self_eq_true _)], q⟩
theorem tyTup (h : SqT K H a xs) : TyX K H (.ref a) (.type "tuple") := by
  rcases h with (h | ⟨o, h⟩) | ⟨o, its, n, hk, hc, hs, hz, r⟩
  · exact .base (.tup h)
  · exact .fTuple h
  · exact .kTuple hk hc
end
def spIsInt : Sp := fun vs H Q _ => ∃ i : Int, vs = [.int i] ∧ Q (.bl true) H
def spWithin : Sp := fun vs H Q _ => ∃ i lo hi : Int, vs = [.int i, .int lo, .int hi] ∧ lo ≤ i ∧ i ≤ hi ∧ Q (.bl true) H
def spIsSmall : Sp := fun vs H Q _ => ∃ i : Int, vs = [.int i] ∧ Sml i ∧ Q (.bl true) H
def spBelow : Sp := fun vs H Q _ => ∃ i m : Int, vs = [.int i, .int m] ∧ 0 ≤ i ∧ i < m ∧ Q (.bl true) H
def spSized (K : PySem.W.Frag) : Sp := fun vs H Q _ => ∃ (t : Addr) (xs : List V) (lo hi : Int), vs = [.ref t, .int lo, .int hi] ∧ SqT K H t xs ∧ lo ≤ xs.length ∧ (xs.length : Int) ≤ hi ∧ Q (.bl true) H
def spIsWord (K : PySem.W.Frag) : Sp := fun vs H Q _ => ∃ (z : Str) (t : Addr) (ws : List Str), vs = [.str z, .ref t] ∧ SqT K H t (ws.map V.str) ∧ z ∈ ws ∧ Q (.bl true) H
theorem flat_strs : ∀ ws : List Str, (ws.map V.str).all flatV = true
  | [] => rfl
  | _ :: r => by rw [List.map_cons, List.all_cons, flat_strs r]; rfl
theorem inV_str (z : Str) (ws : List Str) : inV (.str z) (ws.map V.str) = decide (z ∈ ws) := by
  induction ws with
  | nil => rfl
  | cons y r ih =>
    unfold inV at ih ⊢
    rw [List.map_cons, List.any_cons, ih]
    by_cases e : z = y
    · subst e
      simp [eqV]
    · simp [eqV, e, Ne.symm e, beq_iff_eq, List.mem_cons]
section
variable {P : Program} {w : World} {K : PySem.W.Frag} {mg : Str → Option Value} {base : Heap}
theorem scp_is_integer : FnScope ["thing"] ["thing"] (defScope sp_is_integer) := ⟨rfl, rfl, rfl, by decide +kernel, rfl, by decide +kernel, by decide +kernel⟩
theorem ok_p_is_integer (T : Tx w K mg) : Cal P w K mg base "is_integer" 1 ["thing"] spIsInt := by
  obtain ⟨fd, F⟩ : ∃ fd, Fun K "is_integer" "is_integer" sp_is_integer 134 fd := T.fn 0 _ rfl
  refine T.cal F 18 rfl (fun _ _ _ _ _ _ us hl => match us, hl with | [_], _ => rfl) ?_
  refine F.ok scp_is_integer (fun vs H Q E h => ?_) (fun cdv A outer s H vs Q E hr h => ?_)
  · obtain ⟨i, rfl, _⟩ := h
    rfl
  obtain ⟨i, rfl, k⟩ := h
  refine ⟨_, (pss_one (ps_ret (pe_and (pe_callB call_isi rfl (fr_isinstance T) (by decide +kernel) (pa_cons (pv 0) (pa_cons (pe_bltn (v := .ty "int") rfl (fr_int T) (by decide +kernel) rfl) pa_nil))) (pe_one (pe_not (pe_callB call_isi rfl (fr_isinstance T) (by decide +kernel) (pa_cons (pv 0) (pa_cons (pe_bltn (v := .ty "bool") rfl (fr_bool T) (by decide +kernel) rfl) pa_nil)))))))), ?_⟩
  refine ⟨_, rfl, .int i, .ty "int", .type "int", .type "int", true, rfl, .ty _, .base (.int i), kit_ty (by decide +kernel), _, rfl, ?_⟩
  exact iteT ⟨_, rfl, .int i, .ty "bool", .type "int", .type "bool", false, rfl, .ty _, .base (.int i), kit_ty (by decide +kernel), _, rfl, k⟩
theorem scp_is_within : FnScope ["thing", "least", "most"] ["thing", "least", "most"] (defScope sp_is_within) := ⟨rfl, rfl, rfl, by decide +kernel, rfl, by decide +kernel, by decide +kernel⟩
theorem ok_p_is_within (T : Tx w K mg) : Cal P w K mg base "is_within" 2 ["thing", "least", "most"] spWithin := by
  obtain ⟨fd, F⟩ : ∃ fd, Fun K "is_within" "is_within" sp_is_within 141 fd := T.fn 1 _ rfl
  refine T.cal F 19 rfl (fun _ _ _ _ _ _ us hl => match us, hl with | [_, _, _], _ => rfl) ?_
  refine F.ok scp_is_within (fun vs H Q E h => ?_) (fun cdv A outer s H vs Q E hr h => ?_)
  · obtain ⟨i, lo, hi, rfl, _⟩ := h
    rfl
  obtain ⟨i, lo, hi, rfl, h1, h2, k⟩ := h
  refine ⟨_, (pss_one (ps_ret (pe_and (pe_k (ok_p_is_integer T) (hr.mono (by decide)) (pa_cons (pv 0) pa_nil)) (pe_one (pe_chain op_le op_le (pv 1) (pv 0) (pv 2)))))), ?_⟩
  refine ⟨_, rfl, i, rfl, _, rfl, iteT ?_⟩
  refine ⟨_, rfl, _, rfl, _, _, rfl, rfl, _, rfl, hit (fun c => ?_) (fun c => absurd h1 (of_decide_eq_false c))⟩
  refine ⟨_, rfl, _, _, rfl, rfl, ?_⟩
  show Q (.bl (decide (i ≤ hi))) H
  rw [decide_eq_true h2]
  exact k
theorem scp_is_small : FnScope ["thing"] ["thing"] (defScope sp_is_small) := ⟨rfl, rfl, rfl, by decide +kernel, rfl, by decide +kernel, by decide +kernel⟩
theorem ok_p_is_small (T : Tx w K mg) : Cal P w K mg base "is_small" 3 ["thing"] spIsSmall := by
  obtain ⟨fd, F⟩ : ∃ fd, Fun K "is_small" "is_small" sp_is_small 148 fd := T.fn 2 _ rfl
  refine T.cal F 20 rfl (fun _ _ _ _ _ _ us hl => match us, hl with | [_], _ => rfl) ?_
  refine F.ok scp_is_small (fun vs H Q E h => ?_) (fun cdv A outer s H vs Q E hr h => ?_)
  · obtain ⟨i, rfl, _⟩ := h
    rfl
  obtain ⟨i, rfl, h1, k⟩ := h
  refine ⟨_, (pss_one (ps_ret (pe_k (ok_p_is_within T) (hr.mono (by decide)) (pa_cons (pv 0) (pa_cons (gc T 16 (.int (-2147483648)) rfl) (pa_cons (gc T 17 (.int (2147483647)) rfl) pa_nil)))))), ?_⟩
  exact ⟨_, rfl, i, _, _, rfl, h1.1, h1.2, k⟩
theorem scp_is_below : FnScope ["thing", "many"] ["thing", "many"] (defScope sp_is_below) := ⟨rfl, rfl, rfl, by decide +kernel, rfl, by decide +kernel, by decide +kernel⟩
theorem ok_p_is_below (T : Tx w K mg) : Cal P w K mg base "is_below" 3 ["thing", "many"] spBelow := by
  obtain ⟨fd, F⟩ : ∃ fd, Fun K "is_below" "is_below" sp_is_below 155 fd := T.fn 3 _ rfl
  refine T.cal F 21 rfl (fun _ _ _ _ _ _ us hl => match us, hl with | [_, _], _ => rfl) ?_
  refine F.ok scp_is_below (fun vs H Q E h => ?_) (fun cdv A outer s H vs Q E hr h => ?_)
  · obtain ⟨i, m, rfl, _⟩ := h
    rfl
  obtain ⟨i, m, rfl, h1, h2, k⟩ := h
  refine ⟨_, (pss_one (ps_ret (pe_k (ok_p_is_within T) (hr.mono (by decide)) (pa_cons (pv 0) (pa_cons pe_int (pa_cons (pe_op op_sub (pv 1) pe_int) pa_nil)))))), ?_⟩
  exact ⟨_, rfl, _, rfl, _, _, rfl, rfl, i, _, _, rfl, h1, by omega, k⟩
theorem scp_is_sized : FnScope ["thing", "least", "most"] ["thing", "least", "most"] (defScope sp_is_sized) := ⟨rfl, rfl, rfl, by decide +kernel, rfl, by decide +kernel, by decide +kernel⟩
theorem ok_p_is_sized (T : Tx w K mg) : Cal P w K mg base "is_sized" 1 ["thing", "least", "most"] (spSized K) := by
  obtain ⟨fd, F⟩ : ∃ fd, Fun K "is_sized" "is_sized" sp_is_sized 162 fd := T.fn 4 _ rfl
  refine T.cal F 22 rfl (fun _ _ _ _ _ _ us hl => match us, hl with | [_, _, _], _ => rfl) ?_
  refine F.ok scp_is_sized (fun vs H Q E h => ?_) (fun cdv A outer s H vs Q E hr h => ?_)
  · obtain ⟨t, xs, lo, hi, rfl, _⟩ := h
    rfl
  obtain ⟨t, xs, lo, hi, rfl, hS, h1, h2, k⟩ := h
  refine ⟨_, (pss_one (ps_ret (pe_and (pe_callB call_isi rfl (fr_isinstance T) (by decide +kernel) (pa_cons (pv 0) (pa_cons (pe_bltn (v := .ty "tuple") rfl (fr_tuple T) (by decide +kernel) rfl) pa_nil))) (pe_one (pe_chain op_le op_le (pv 1) (pe_callB call_len_seq rfl (fr_len T) (by decide +kernel) (pa_cons (pv 0) pa_nil)) (pv 2)))))), ?_⟩
  refine ⟨_, rfl, .ref t, .ty "tuple", .type "tuple", .type "tuple", true, rfl, .ty _, tyTup hS, kit_ty (by decide +kernel), _, rfl, iteT ?_⟩
  refine ⟨_, rfl, _, rfl, t, xs, rfl, .inr hS, _, _, rfl, rfl, _, rfl, hit (fun c => ?_) (fun c => absurd h1 (of_decide_eq_false c))⟩
  refine ⟨_, rfl, _, _, rfl, rfl, ?_⟩
  show Q (.bl (decide ((xs.length : Int) ≤ hi))) H
  rw [decide_eq_true h2]
  exact k
theorem scp_is_word : FnScope ["thing", "words"] ["thing", "words"] (defScope sp_is_word) := ⟨rfl, rfl, rfl, by decide +kernel, rfl, by decide +kernel, by decide +kernel⟩
theorem ok_p_is_word (T : Tx w K mg) : Cal P w K mg base "is_word" 1 ["thing", "words"] (spIsWord K) := by
  obtain ⟨fd, F⟩ : ∃ fd, Fun K "is_word" "is_word" sp_is_word 169 fd := T.fn 5 _ rfl
  refine T.cal F 23 rfl (fun _ _ _ _ _ _ us hl => match us, hl with | [_, _], _ => rfl) ?_
  refine F.ok scp_is_word (fun vs H Q E h => ?_) (fun cdv A outer s H vs Q E hr h => ?_)
  · obtain ⟨z, t, ws, rfl, _⟩ := h
    rfl
  obtain ⟨z, t, ws, rfl, hS, h1, k⟩ := h
  refine ⟨_, (pss_one (ps_ret (pe_and (pe_callB call_isi rfl (fr_isinstance T) (by decide +kernel) (pa_cons (pv 0) (pa_cons (pe_bltn (v := .ty "str") rfl (fr_str T) (by decide +kernel) rfl) pa_nil))) (pe_one (pe_cmpR op_in_seq (pv 0) (pv 1) (by rfl)))))), ?_⟩
  refine ⟨_, rfl, .str z, .ty "str", .type "str", .type "str", true, rfl, .ty _, .base (.str z), kit_ty (by decide +kernel), _, rfl, iteT ?_⟩
  refine ⟨_, rfl, _, rfl, t, _, rfl, .inr hS, rfl, flat_strs ws, ?_⟩
  show Q (.bl (inV (.str z) (ws.map V.str))) H
  rw [inV_str, decide_eq_true h1]
  exact k
end
end G
set_option Elab.async false
set_option linter.all false
set_option maxRecDepth 100000
set_option maxHeartbeats 4000000
namespace G
open PySem PySem.Spec PyProof.Rows L2
abbrev onesL : List Str := ["not", "minus", "draw", "press", "kind", "left", "top"]
abbrev twosL : List Str := ["add", "sub", "mul", "div", "rest", "less", "same", "and", "or", "cell"]
abbrev namesL : List Str := ["x", "y", "tick", "id", "owner", "buttons", "other", "side", "dx", "dy", "c0", "c1", "c2", "c3", "s0", "s1", "s2", "s3", "s4", "s5", "s6", "s7"]
abbrev setsL : List Str := ["dx", "dy", "c0", "c1", "c2", "c3", "s0", "s1", "s2", "s3", "s4", "s5", "s6", "s7"]
theorem mem_ones : ((231, onesL) : Addr × List Str) ∈ tuL := by simp [tuL]
theorem mem_twos : ((234, twosL) : Addr × List Str) ∈ tuL := by simp [tuL]
theorem mem_names : ((228, namesL) : Addr × List Str) ∈ tuL := by simp [tuL]
theorem mem_sets : ((226, setsL) : Addr × List Str) ∈ tuL := by simp [tuL]
theorem mem_events : ((235, ["tick", "touch", "wall"]) : Addr × List Str) ∈ tuL := by simp [tuL]
theorem mem_cells : ((223, ["c0", "c1", "c2", "c3"]) : Addr × List Str) ∈ tuL := by simp [tuL]
theorem mem_shared : ((224, ["s0", "s1", "s2", "s3", "s4", "s5", "s6", "s7"]) : Addr × List Str) ∈ tuL := by simp [tuL]
theorem mem_cones : ((229, ["not", "minus"]) : Addr × List Str) ∈ tuL := by simp [tuL]
theorem w1_in (w : W1) : inV (.str w.str) (onesL.map V.str) = true := by rw [inV_str]; cases w <;> decide +kernel
theorem w2_notin (w : W2) : inV (.str w.str) (onesL.map V.str) = false := by rw [inV_str]; cases w <;> decide +kernel
theorem w2_in (w : W2) : inV (.str w.str) (twosL.map V.str) = true := by rw [inV_str]; cases w <;> decide +kernel
theorem nm_in {w : Nm} (h : w ∈ Nm.all) : w.str ∈ namesL := by
  have : ∀ w ∈ Nm.all, w.str ∈ namesL := by decide +kernel
  exact this w h
theorem nm_sets {w : Nm} (h : w ∈ Nm.sets) : w.str ∈ setsL := by
  have : ∀ w ∈ Nm.sets, w.str ∈ setsL := by decide +kernel
  exact this w h
abbrev ExA (H : Hp) (v : V) (e : Ex) : Prop := ExAt H e v
theorem ExAt.hd {H : Hp} : ∀ {e : Ex} {v : V}, ExAt H e v → ∃ a z r, v = .ref a ∧ H a = some (.tup (.str z :: r)) ∧ 1 ≤ r.length ∧ r.length ≤ 2
  | .num _, v, ⟨a, h1, h2⟩ => ⟨a, _, _, h1, h2, by show 1 ≤ 1; decide, by show 1 ≤ 2; decide⟩
  | .nam _, v, ⟨a, h1, h2⟩ => ⟨a, _, _, h1, h2, by show 1 ≤ 1; decide, by show 1 ≤ 2; decide⟩
  | .one _ _, v, ⟨a, x, h1, h2, _⟩ => ⟨a, _, _, h1, h2, by show 1 ≤ 1; decide, by show 1 ≤ 2; decide⟩
  | .two _ _ _, v, ⟨a, x, y, h1, h2, _, _⟩ => ⟨a, _, _, h1, h2, by show 1 ≤ 2; decide, by show 2 ≤ 2; decide⟩
def spESize (n : Nat) : Sp := fun vs H Q _ => ∃ (d : Int) (v : V) (e : Ex), vs = [.int d, v] ∧ ExAt H e v ∧ e.ok ∧ (e.dp : Int) ≤ d ∧ d ≤ n ∧ ∀ H', Kp M0 H H' → Q (.int e.sz) H'
theorem noNone (ns : List Int) : inV .non (ns.map V.int) = false := by
  induction ns with
  | nil => rfl
  | cons y r ih =>
    unfold inV at ih ⊢
    rw [List.map_cons, List.any_cons, ih]
    rfl
theorem flat_ints : ∀ ns : List Int, (ns.map V.int).all flatV = true
  | [] => rfl
  | _ :: r => by rw [List.map_cons, List.all_cons, flat_ints r]; rfl
theorem ExAt.tri {H : Hp} {e : Ex} {a : Addr} {z : Str} {r : List V} {d : Int} (hx : ExAt H e (.ref a)) (et : H a = some (.tup (.str z :: r))) (ok : e.ok) (hd : (e.dp : Int) ≤ d) :
    (∃ m, z = "number" ∧ e = .num m ∧ r = [.int m]) ∨ (∃ m, z = "name" ∧ e = .nam m ∧ r = [.str m.str]) ∨ (∃ es, decide (V.str z = V.str "number") = false ∧ decide (V.str z = V.str "name") = false ∧ All2 (ExA H) r es ∧ (∀ e' ∈ es, e'.ok ∧ (e'.dp : Int) ≤ d - 1) ∧
      1 + (es.map fun e => (e.sz : Int)).sum = (e.sz : Int) ∧ ((inV (.str z) (onesL.map V.str) = true ∧ r.length = 1) ∨ (inV (.str z) (onesL.map V.str) = false ∧ inV (.str z) (twosL.map V.str) = true ∧ r.length = 2))) := by
  cases e with
  | num m =>
    obtain ⟨a', e1, e2⟩ := hx
    cases e1
    rw [et] at e2
    cases e2
    exact .inl ⟨m, rfl, rfl, rfl⟩
  | nam m =>
    obtain ⟨a', e1, e2⟩ := hx
    cases e1
    rw [et] at e2
    cases e2
    exact .inr (.inl ⟨m, rfl, rfl, rfl⟩)
  | one m f =>
    obtain ⟨a', x, e1, e2, hf⟩ := hx
    cases e1
    rw [et] at e2
    cases e2
    refine .inr (.inr ⟨[f], by cases m <;> decide +kernel, by cases m <;> decide +kernel, ⟨hf, trivial⟩, ?_, ?_, .inl ⟨w1_in m, rfl⟩⟩)
    · intro e' he
      rw [List.mem_singleton.mp he]
      exact ⟨ok, by simp only [Ex.dp] at hd; omega⟩
    · simp only [List.map_cons, List.map_nil, List.sum_cons, List.sum_nil, Ex.sz]
      omega
  | two m f g =>
    obtain ⟨a', x, y, e1, e2, hf, hg⟩ := hx
    cases e1
    rw [et] at e2
    cases e2
    simp only [Ex.dp] at hd
    refine .inr (.inr ⟨[f, g], by cases m <;> decide +kernel, by cases m <;> decide +kernel, ⟨hf, hg, trivial⟩, ?_, ?_, .inr ⟨w2_notin m, w2_in m, rfl⟩⟩)
    · intro e' he
      rcases List.mem_cons.mp he with q | q
      · rw [q]
        exact ⟨ok.1, by omega⟩
      · rw [List.mem_singleton.mp q]
        exact ⟨ok.2, by omega⟩
    · simp only [List.map_cons, List.map_nil, List.sum_cons, List.sum_nil, Ex.sz]
      omega
section
variable {P : Program} {w : World} {K : PySem.W.Frag} {mg : Str → Option Value} {base : Heap}
theorem scp_expression_size : FnScope ["deep", "thing", "word", "sizes", "part"] ["deep", "thing"] (defScope sp_expression_size) := ⟨rfl, rfl, rfl, by decide +kernel, rfl, by decide +kernel, by decide +kernel⟩
theorem ok_p_esize1 {n : Nat} (B : Cal P w K mg base "expression_size" (4 + n) ["deep", "thing"] (spESize n)) (T : Tx w K mg) : Cal P w K mg base "expression_size" (4+n+1) ["deep", "thing"] (spESize (n+1)) := by
  obtain ⟨fd, F⟩ : ∃ fd, Fun K "expression_size" "expression_size" sp_expression_size 241 fd := T.fn 9 _ rfl
  refine T.cal F 62 rfl (fun _ _ _ _ _ _ us hl => match us, hl with | [_, _], _ => rfl) ?_
  refine F.ok scp_expression_size (fun vs H Q E h => ?_) (fun cdv A outer s H vs Q E hr h => ?_)
  · obtain ⟨d, v, e, rfl, _⟩ := h
    rfl
  obtain ⟨d, v, e, rfl, hx, hok, h1, h2, k⟩ := h
  refine ⟨_, (pss_cons (ps_if (PW.pt (pw_or (pt_cmpR op_lt (pv 0) pe_int (nomark _)) (pw_or (pt_not (pt_val (pe_callB call_isi rfl (fr_isinstance T) (by decide +kernel) (pa_cons (pv 1) (pa_cons (pe_bltn (v := .ty "tuple") rfl (fr_tuple T) (by decide +kernel) rfl) pa_nil))))) (pw_or (pt_cmpR op_lt (pe_callB call_len_seq rfl (fr_len T) (by decide +kernel) (pa_cons (pv 1) pa_nil)) pe_int (nomark _)) (pw_or1 (pt_not (pt_val (pe_callB call_isi rfl (fr_isinstance T) (by decide +kernel) (pa_cons (pe_ix ix_tup (pv 1) pe_int (fun _ _ => rfl)) (pa_cons (pe_bltn (v := .ty "str") rfl (fr_str T) (by decide +kernel) rfl) pa_nil)))))))))) (pss_one (ps_ret pe_non)) pss_nil)
    (pss_cons (ps_set (i := 2) scp_expression_size.nd rfl (Or.inl rfl) (pe_ix ix_tup (pv 1) pe_int (fun _ _ => rfl)))
    (pss_cons (ps_if (pt_cmpR op_eq (pv 2) (gc T 42 (.str "number") rfl) (nomark _)) (pss_one (ps_ret (pe_ifExp (PW.pt (pw_and (pt_cmpR op_eq (pe_callB call_len_seq rfl (fr_len T) (by decide +kernel) (pa_cons (pv 1) pa_nil)) pe_int (nomark _)) (pw_and1 (pt_val (pe_k (ok_p_is_small T) (hr.mono (by omega)) (pa_cons (pe_ix ix_tup (pv 1) pe_int (fun _ _ => rfl)) pa_nil)))))) pe_int pe_non))) pss_nil)
    (pss_cons (ps_if (pt_cmpR op_eq (pv 2) (gc T 43 (.str "name") rfl) (nomark _)) (pss_one (ps_ret (pe_ifExp (PW.pt (pw_and (pt_cmpR op_eq (pe_callB call_len_seq rfl (fr_len T) (by decide +kernel) (pa_cons (pv 1) pa_nil)) pe_int (nomark _)) (pw_and1 (pt_val (pe_k (ok_p_is_word T) (hr.mono (by omega)) (pa_cons (pe_ix ix_tup (pv 1) pe_int (fun _ _ => rfl)) (pa_cons (gc T 48 (.ref 228) rfl) pa_nil))))))) pe_int pe_non))) pss_nil)
    (C8.pss_cut (ps_if (pt_not (PW.pt (pw_or (PW.pt (pw_and (pt_cmpR op_in_seq (pv 2) (gc T 50 (.ref 231) rfl) (by rfl)) (pw_and1 (pt_cmpR op_eq (pe_callB call_len_seq rfl (fr_len T) (by decide +kernel) (pa_cons (pv 1) pa_nil)) pe_int (nomark _))))) (pw_or1 (PW.pt (pw_and (pt_cmpR op_in_seq (pv 2) (gc T 52 (.ref 234) rfl) (by rfl)) (pw_and1 (pt_cmpR op_eq (pe_callB call_len_seq rfl (fr_len T) (by decide +kernel) (pa_cons (pv 1) pa_nil)) pe_int (nomark _))))))))) (pss_one (ps_ret pe_non)) pss_nil)
    (pss_cons (ps_setLc (i := 3) (own := [("part", 4)]) (g := gName 4) (by rfl) scp_expression_size.nd rfl rfl (sw_true rfl rfl rfl (by decide +kernel)) (pi_tup (pe_slice sl_tupA (pv 1) (po_some pe_int) po_none)) (blkOk_by (own := [("part", 4)]) (N := ["deep", "thing", "word", "sizes", "part"]) (sc := defScope sp_expression_size) (by decide +kernel)) (fun _ _ _ _ _ => pg_name (i := 4) scp_expression_size.nd rfl (Or.inl rfl)) (fun _ _ _ _ _ => pts_nil) (fun _ _ _ _ _ => (pe_k B (hr.mono (by omega)) (pa_cons (pe_op op_sub (pv 0) pe_int) (pa_cons (pv 4) pa_nil)))))
    (pss_one (ps_ret (pe_ifExp (pt_cmpR op_in_seq pe_non (pv 3) (by rfl)) pe_non (pe_op op_add pe_int (pe_callB (cr_sum rfl) rfl (fr_sum T) (by decide +kernel) (pa_cons (pv 3) pa_nil)))))))))))), ?_⟩
  obtain ⟨a, z, r, rfl, et, r1, r2⟩ := hx.hd
  have dpos := e.dp_pos
  refine ⟨_, rfl, _, _, rfl, rfl, _, rfl, hit (fun c => absurd (of_decide_eq_true c) (by omega)) (fun _ => ?_)⟩
  refine ⟨_, rfl, .ref a, .ty "tuple", .type "tuple", .type "tuple", true, rfl, .ty _, tyTup (SqT.of et), kit_ty (by decide +kernel), _, rfl, iteF ?_⟩
  refine ⟨_, rfl, a, _, rfl, .inr (SqT.of et), _, _, rfl, rfl, _, rfl, hit (fun c => absurd (of_decide_eq_true c) (by rw [List.length_cons]; omega)) (fun _ => ?_)⟩
  refine ⟨_, rfl, a, _, 0, _, rfl, rfl, SqT.of et, atI_of (j := 0) rfl rfl, .str z, .ty "str", .type "str", .type "str", true, rfl, .ty _, .base (.str z), kit_ty (by decide +kernel), _, rfl, iteF ?_⟩
  refine ⟨_, rfl, a, _, 0, _, rfl, rfl, SqT.of et, atI_of (j := 0) rfl rfl, ?_⟩
  rcases hx.tri et hok h1 with ⟨m, rfl, rfl, rfl⟩ | ⟨m, rfl, rfl, rfl⟩ | ⟨es, z1, z2, hes, hall, hsz, hF⟩
  · refine ⟨_, rfl, rfl, _, rfl, hit (fun c => ?_) (fun c => absurd c (by decide +kernel))⟩
    refine ⟨_, rfl, a, _, rfl, .inr (SqT.of et), rfl, _, rfl, iteT ?_⟩
    exact ⟨_, rfl, a, _, 1, _, rfl, rfl, SqT.of et, rfl, m, rfl, hok, _, rfl, iteT (k _ Kp.rfl)⟩
  · refine ⟨_, rfl, rfl, _, rfl, hit (fun c => absurd c (by decide +kernel)) (fun c => ?_)⟩
    refine ⟨_, rfl, rfl, _, rfl, hit (fun c => ?_) (fun c => absurd c (by decide +kernel))⟩
    refine ⟨_, rfl, a, _, rfl, .inr (SqT.of et), rfl, _, rfl, iteT ?_⟩
    exact ⟨_, rfl, a, _, 1, _, rfl, rfl, SqT.of et, rfl, m.str, 228, namesL, rfl, T.sqT mem_names _, nm_in hok, _, rfl, iteT (k _ Kp.rfl)⟩
  refine ⟨_, rfl, rfl, _, rfl, hit (fun c => absurd (c.symm.trans z1) (by decide)) (fun c => ?_)⟩
  refine ⟨_, rfl, rfl, _, rfl, hit (fun c => absurd (c.symm.trans z2) (by decide)) (fun c => ?_)⟩
  refine ⟨fun σ' H' => σ' = [some (.int d), some (.ref a), some (.str z), none, none] ∧ H' = H, ?_, ?_⟩
  · rcases hF with ⟨w1, w2⟩ | ⟨w1, w2, w3⟩
    · refine ⟨_, rfl, 231, _, rfl, .inr (T.sqT mem_ones _), rfl, flat_strs _, _, rfl, ?_⟩
      rw [w1]
      refine iteT ⟨_, rfl, a, _, rfl, .inr (SqT.of et), rfl, _, rfl, ?_⟩
      rw [List.length_cons, w2]
      exact iteT (iteF ⟨rfl, rfl⟩)
    · refine ⟨_, rfl, 231, _, rfl, .inr (T.sqT mem_ones _), rfl, flat_strs _, _, rfl, ?_⟩
      rw [w1]
      refine iteF (iteF ⟨_, rfl, 234, _, rfl, .inr (T.sqT mem_twos _), rfl, flat_strs _, _, rfl, ?_⟩)
      rw [w2]
      refine iteT ⟨_, rfl, a, _, rfl, .inr (SqT.of et), rfl, _, rfl, ?_⟩
      rw [List.length_cons, w3]
      exact iteF ⟨rfl, rfl⟩
  rintro σ' H' ⟨rfl, rfl⟩
  refine ⟨_, rfl, 1, rfl, a, _, rfl, SqT.of et, fun q => absurd q.1 ?_, fun _ p np => ?_⟩
  · show ¬ (HT.sIx (V.str z :: r).length 0 (some ((1 : Nat) : Int)) = 0)
    rw [HT.sIx_nat, List.length_cons]
    omega
  have ecut : cutV (V.str z :: r) (some 1) none = r := by
    show (List.drop (HT.sIx (V.str z :: r).length 0 (some ((1 : Nat) : Int))) (V.str z :: r)).take ((V.str z :: r).length - HT.sIx (V.str z :: r).length 0 (some ((1 : Nat) : Int))) = r
    rw [HT.sIx_nat, List.length_cons, show min 1 (r.length + 1) = 1 by omega, show r.length + 1 - 1 = r.length by omega]
    show r.take r.length = r
    rw [List.take_length]
  rw [ecut]
  have kpp : Kp M0 H' (upd H' p (.tup r)) := Kp.new np
  refine ⟨p, rfl, ⟨_, SqT.of upd_same⟩, fun D nD => ?_⟩
  have kpD : Kp M0 H' (upd (upd H' p (.tup r)) D (.lst [])) := kpp.trans (Kp.new nD)
  refine lc_tup (xs := r) (fun j Hj => Kp M0 H' Hj ∧ Hj p = some (.tup r) ∧ Hj D = some (.lst (((es.take j).map fun e => (e.sz : Int)).map V.int))) ?_ ?_ ?_ ?_
  · exact ⟨kpD, by rw [upd_ne (ne_of_none upd_same nD)]; exact upd_same, upd_same⟩
  · rintro i Hj _ ⟨_, e, _⟩
    exact SqT.of e
  · rintro j x Hj hj ⟨kpj, ep, eD⟩
    obtain ⟨f, ef, hf⟩ := hes.getL hj
    have hfa := hall f (List.mem_of_getElem? ef)
    refine ⟨rfl, _, rfl, _, _, rfl, rfl, _, rfl, d - 1, x, f, rfl, ExAt.kp kpj hf, hfa.1, hfa.2, by omega, fun Hk kpk => ?_⟩
    have hjl := (List.getElem?_eq_some_iff.mp hj).1
    refine ⟨_, kpk.keep _ _ eD id, Nat.lt_of_le_of_lt (show _ ≤ 100 by rw [List.length_map, List.length_map, List.length_take]; omega) (by decide), ?_, ?_, ?_⟩
    · have hD0 : H' D = none := by
        cases q : H' D with
        | none => rfl
        | some o => rw [kpp.keep D o q id] at nD; cases nD
      exact (kpj.trans kpk).priv hD0
    · rw [upd_ne (fun z => by have q := kpk.keep _ _ eD id; rw [← z, kpk.tup _ _ ep] at q; cases q)]
      exact kpk.tup _ _ ep
    · rw [upd_same, List.take_add_one, ef, List.map_append, List.map_append]
      rfl
  rintro Hj ⟨kpj, ep, eD⟩
  rw [show r.length = es.length from hes.len, List.take_length] at eD
  refine ⟨_, rfl, D, _, rfl, .inl (SqL.of eD), rfl, flat_ints _, ?_⟩
  show ∃ c, V.bl (inV .non _) = V.bl c ∧ _
  rw [noNone]
  refine ⟨_, rfl, iteF ⟨_, rfl, D, _, rfl, SqL.of eD, _, _, rfl, rfl, ?_⟩⟩
  show Q (.int (1 + (es.map fun e => (e.sz : Int)).sum)) Hj
  rw [hsz]
  exact k _ kpj
theorem ok_p_esize (T : Tx w K mg) : ∀ n : Nat, Cal P w K mg base "expression_size" (4 + n) ["deep", "thing"] (spESize n)
  | 0 => by
    obtain ⟨fd, F⟩ : ∃ fd, Fun K "expression_size" "expression_size" sp_expression_size 241 fd := T.fn 9 _ rfl
    exact T.cal F 62 rfl (fun _ _ _ _ _ _ us hl => match us, hl with | [_, _], _ => rfl) (fnok_none fun vs H Q E h => by
      obtain ⟨d, v, e, _, _, _, d1, d2, _⟩ := h
      have := e.dp_pos
      have : d ≤ 0 := d2
      omega)
  | n + 1 => (ok_p_esize1 (ok_p_esize T n) T).mono (by omega)
end
end G
set_option Elab.async false
set_option linter.all false
set_option maxRecDepth 100000
set_option maxHeartbeats 4000000
/-! ### a few rules of our own -/
namespace PySem
theorem wpAny_assign_Attr {M : Model} {A : Around} {E : Value → Shared → Prop} {s : Shared} {env : Env} {o : Expr} {attr : Str} {pos : Pos} {v : Value} {Q : Unit → Shared → Prop}
    (h : wpAny M A (eval o env) (fun ov s₂ => wpAny M A (setAttr ov attr v) Q E s₂) E s) : wpAny M A (assign (.Attribute o attr pos) env v) Q E s := fun Γ p hΓ => by
  simp only [assign_Attribute, Sem.wp_bind', Sem.wp_holding, Sem.wp_cmd_standAt, Sem.wp_release, Sem.wp_pure']
  exact Sem.wp_mono M Γ _ (fun ov _ s₂ h₂ => h₂ Γ _ hΓ) (fun _ _ _ h' => h') _ _ (h Γ _ hΓ)
end PySem
namespace G
open PySem PySem.Spec PyProof.Rows L2
section
variable {X : Cx} {o e f : Expr} {apos cpos pos : Pos} {td ty tx : TE} {d : Addr} {es : Array DictEntry} {n : Nat}
/-- // by a divisor of either sign -/
theorem op_fdivB : OpR X (binaryOp .FloorDiv) (rI (fun _ j => j ≠ 0 ∧ j.natAbs.log2 < 9000) fun i j => .int (i.fdiv j)) := opI fun _ _ _ _ _ _ _ hc q => floordiv_int hc.1 q (.inl (PyProof.noPylong_of_log2 hc.2))
/-- get of a written dict, the key there -/
def tKGet2 (K : PySem.W.Frag) (d : Addr) (td ty tx : TE) : TE := fun σ H Q => td σ H fun x H1 => x = .ref d ∧ ty σ H1 fun y H2 => tx σ H2 fun z H3 => ∃ z0 u0 v0, y = .str z0 ∧ PySem.W.nsIn K d z0 = some (some u0) ∧ RelV v0 u0 ∧ Q v0 H3
theorem pe_kget2 (D : KDict X.K X.w d es n) (ho : PE X o td) (he : PE X e ty) (hf : PE X f tx) (m : M2 X o "get" apos e f cpos) : PE X (.Call (.Attribute o "get" apos) [e, f] [] cpos) (tKGet2 X.K d td ty tx) := by
  refine ⟨fun pins s σ H Q I h => ?_⟩
  refine wpAny_Call_method m.base m.few m.line PySem.F.plainAttrs_dict PySem.F.slot_dict_get PySem.F.type_dict_get (thn (ho.run pins s σ H _ I h) fun u s1 ⟨x, H1, I1, rx, ex, q1⟩ => ?_)
  subst ex
  obtain rfl : u = Value.ref d := rx
  refine ⟨kd_type D I1, fun b q => by cases q; exact ⟨_, I1.kIn d _ D.at_, rfl⟩, ?_⟩
  rw [m.trees]
  refine Calls.callWith_builtin rfl (Calls.evalArgs_plain (Calls.spliced_cons (thn (he.run pins s1 σ H1 _ I1 q1) fun iv s2 ⟨y, H2, I2, ry, q2⟩ =>
    Calls.spliced_cons (thn (hf.run pins s2 σ H2 _ I2 q2) fun fv s3 ⟨z, H3, I3, rz, z0, u0, v0, ey, hn, r0, q3⟩ => Calls.spliced_nil ?_))))
  subst ey
  obtain ⟨t, rfl⟩ := (show ∃ t, iv = Value.str z0 t from ry)
  refine call_meetsIn PySem.F.slot_dict_get (kd_type D I3) PySem.F.entry_dict_get (PySem.F.args_dict_get_3 _ _ _) (meets_dict_get_default (PySem.strKind X.prog X.w) d (strKind_is X.prog X.w z0 t) D.low fv) ⟨_, PySem.W.mapOf_K (prog := X.prog) I3.kIn D.at_ D.lit, ?_⟩
  rw [PySem.W.find_K D.at_ hn]
  exact ⟨v0, H3, I3.tok _, r0, q3⟩
/-- dict(d) -/
theorem call_dict_of : CallR X (.type "dict") (fun xs H Q => ∃ p kvs, xs = [.ref p] ∧ H p = some (.dK kvs) ∧ ∀ l, H l = none → Q (.ref l) (upd H l (.dK kvs))) := by
  intro pins s σ H xs us Q I r h
  obtain ⟨p, kvs, rfl, hp, q⟩ := h
  obtain ⟨u, rfl, rx⟩ := vals1 r
  cases rx
  obtain ⟨z, hd, vs, rel, dd⟩ := dk_of I.hok hp
  have hl := rel.length
  refine kt_call_dict hd dd (by omega) fun h' hD sb => ?_
  refine ⟨.ref s.heap.objs.size, upd H s.heap.objs.size (.dK kvs), I.laid (t' := s.toks) (fun b o e => ?_) (Nat.le_refl _) (dk_new z ?_ rel hD), rfl, q _ (I.hok.fresh (Nat.le_refl _))⟩
  · have hb : b ≠ s.heap.objs.size := Nat.ne_of_lt (Heap.lt_size e)
    exact (sb.2 b hb).trans (Heap.get?_push_of_some _ e)
  · exact beq_eq_false_iff_ne.mpr (Nat.ne_of_gt I.big)
/-- d.update(o) -/
theorem mt_update : MtM X "dict.update" (fun x xs H Q => ∃ a b kvs more, x = .ref a ∧ xs = [.ref b] ∧ a ≠ b ∧ H a = some (.dK kvs) ∧ H b = some (.dK more) ∧ kvs.length + more.length ≤ sizeLine ∧ Q .non (upd H a (.dK (mergeK kvs more)))) := by
  intro pins s σ H x xs v us Q I rx rs h
  obtain ⟨a, b, kvs, more, rfl, rfl, hab, ha, hb, hz, q⟩ := h
  cases rx
  obtain ⟨u, rfl, ru⟩ := vals1 rs
  cases ru
  obtain ⟨z1, hd1, vs1, rel1, dd1⟩ := dk_of I.hok ha
  obtain ⟨z2, hd2, vs2, rel2, dd2⟩ := dk_of I.hok hb
  have l1 := rel1.length
  have l2 := rel2.length
  refine call_meetsIn PySem.F.slot_dict_update dd1.typeIs PySem.F.entry_dict_update (PySem.F.args_dict_update_2 _ _) (meets_dict_update (mixKind X.prog X.w) a b hab hd2) ⟨_, _, dd1, dd2, by omega, fun h' h1 h2 sb => ?_⟩
  have hm := length_mergeK more kvs
  refine ⟨.non, upd H a (.dK (mergeK kvs more)), I.write (e := a) (t' := s.toks) (by rw [ha]; trivial) (.inl rfl) (fun c u hc hu => (sb.2 c hc).trans hu) ?_ (dk_new (by omega) hd1 (rel2.merge rel1) h1), rfl, q⟩
  obtain ⟨ob, _, _, e, _⟩ := h1
  exact ⟨ob, e⟩
/-- o.f as a target among several -/
def gFld (K : PySem.W.Frag) (ta : TE) (f : Str) : TG := fun v σ H Q => ta σ H fun x H2 => ∃ a C dx fs, x = .ref a ∧ H2 a = some (.ins C dx fs) ∧ Cls K C ∧ NoAttr K C f ∧ fs.length < 1000 ∧ Q σ (upd H2 a (.ins C dx (putF f v fs)))
theorem pg_fld {fn : Str} (ha : PE X o td) : PG X (.Attribute o fn pos) (gFld X.K td fn) := by
  refine ⟨fun pins s σ H v u Q I r h => ?_⟩
  refine wpAny_assign_Attr (thn (ha.run pins s σ H _ I h) fun ov s2 ⟨x, H2, I2, rx, a, C, dx, fs, ex, ea, c, nn, l, q2⟩ => ?_)
  subst ex
  obtain rfl : ov = Value.ref a := rx
  exact setattr_ok I2 ea c nn l r fun s3 I3 => ⟨σ, _, I3, q2⟩
/-- set(t), t a tuple of ints -/
theorem call_set_ints (hc : X.calm = true) : CallR X (.type "set") (fun xs H Q => ∃ (p : Addr) (ns : List Int), xs = [.ref p] ∧ SqT X.K H p (ns.map V.int) ∧ ns.length + 1 < scanBound ∧ ∀ l c, H l = none → c ≤ ns.length → Q (.ref l) (upd H l (SetO X.w l (fun j => decide (j ∈ ns)) c))) := by
  intro pins s σ H xs us Q I r h
  obtain ⟨p, ns, rfl, hp, hb, q⟩ := h
  obtain ⟨u, rfl, rx⟩ := vals1 r
  cases rx
  obtain ⟨its, rv, pl, hz⟩ := I.tuple hp
  refine call_set_tupI ns (I.ok.hd hc) pl (by simpa using intsAre_of rv) hb fun h' tk c R hc2 kp => ?_
  exact ⟨.ref s.heap.objs.size, _, I.laid (t' := tk) kp (Nat.le_refl _) (setO_new R), rfl, q _ c (I.hok.fresh (Nat.le_refl _)) hc2⟩
end
end G
set_option Elab.async false
set_option linter.all false
set_option maxRecDepth 100000
set_option maxHeartbeats 4000000
namespace G
open PySem PySem.Spec PyProof.Rows L2
def Sm.exprs : Sm → List Ex
  | .set _ e => [e]
  | .make _ e f g => [e, f, g]
  | .push e f g => [e, f, g]
  | .gone => []
  | .say e => [e]
  | .ite e _ _ => [e]
  | .whl e _ => [e]
def Sm.bods : Sm → List (List Sm)
  | .ite _ a b => [a, b]
  | .whl _ b => [b]
  | _ => []
/-- a body's tuple -/
def BtAt (H : Hp) (v : V) (l : List Sm) : Prop := ∃ t xs, v = .ref t ∧ H t = some (.tup xs) ∧ BdAt H l xs
theorem BtAt.kp {M : Addr → Prop} {H H' : Hp} (k : Kp M H H') {v : V} {l : List Sm} (h : BtAt H v l) : BtAt H' v l := by
  obtain ⟨t, xs, h1, h2, h3⟩ := h
  exact ⟨t, xs, h1, k.tup _ _ h2, BdAt.kp k _ _ h3⟩
theorem ExA.kp {M : Addr → Prop} {H H' : Hp} {e : Ex} {v : V} (h : ExAt H e v) (k : Kp M H H') : ExAt H' e v := ExAt.kp k h
def spExprs : Sp := fun vs H Q _ => ∃ (v : V) (s : Sm), vs = [v] ∧ SmAt H s v ∧ ∀ t xs H', Kp M0 H H' → H' t = some (.tup xs) → All2 (ExA H') xs s.exprs → Q (.ref t) H'
def spBodiesOf : Sp := fun vs H Q _ => ∃ (v : V) (s : Sm), vs = [v] ∧ SmAt H s v ∧ ∀ t xs H', Kp M0 H H' → H' t = some (.tup xs) → All2 (BtAt H') xs s.bods → Q (.ref t) H'
def spForm : Sp := fun vs H Q _ => ∃ (v : V) (s : Sm), vs = [v] ∧ SmAt H s v ∧ s.ok ∧ Q (.bl true) H
section
variable {P : Program} {w : World} {K : PySem.W.Frag} {mg : Str → Option Value} {base : Heap}
theorem scp_expressions_of : FnScope ["statement", "word"] ["statement"] (defScope sp_expressions_of) := ⟨rfl, rfl, rfl, by decide +kernel, rfl, by decide +kernel, by decide +kernel⟩
theorem ok_p_expressions_of (T : Tx w K mg) : Cal P w K mg base "expressions_of" 1 ["statement"] spExprs := by
  obtain ⟨fd, F⟩ : ∃ fd, Fun K "expressions_of" "expressions_of" sp_expressions_of 248 fd := T.fn 10 _ rfl
  refine T.cal F 63 rfl (fun _ _ _ _ _ _ us hl => match us, hl with | [_], _ => rfl) ?_
  refine F.ok scp_expressions_of (fun vs H Q E h => ?_) (fun cdv A outer s H vs Q E hr h => ?_)
  · obtain ⟨v, s, rfl, _⟩ := h
    rfl
  obtain ⟨v, s, rfl, hs, k⟩ := h
  refine ⟨_, (pss_cons (ps_set (i := 1) scp_expressions_of.nd rfl (Or.inl rfl) (pe_ix ix_tup (pv 0) pe_int (fun _ _ => rfl)))
    (pss_cons (ps_if (PW.pt (pw_or (pt_cmpR op_eq (pv 1) (gc T 53 (.str "set") rfl) (nomark _)) (pw_or1 (pt_cmpR op_eq (pv 1) (gc T 54 (.str "make") rfl) (nomark _))))) (pss_one (ps_ret (pe_slice sl_tupA (pv 0) (po_some pe_int) po_none))) pss_nil)
    (pss_cons (ps_if (PW.pt (pw_or (pt_cmpR op_eq (pv 1) (gc T 58 (.str "if") rfl) (nomark _)) (pw_or1 (pt_cmpR op_eq (pv 1) (gc T 59 (.str "while") rfl) (nomark _))))) (pss_one (ps_ret (pe_slice sl_tupA (pv 0) (po_some pe_int) (po_some pe_int)))) pss_nil)
    (pss_one (ps_ret (pe_slice sl_tupA (pv 0) (po_some pe_int) po_none)))))), ?_⟩
  cases s with
  | set w e =>
    unfold SmAt at hs
    obtain ⟨a, x, rfl, et, h1⟩ := hs
    refine ⟨_, rfl, a, _, 0, _, rfl, rfl, SqT.of et, rfl, ?_⟩
    exact ⟨_, rfl, rfl, _, rfl, hit (fun _ => iteT ⟨_, rfl, 2, rfl, a, _, rfl, SqT.of et, fun q => absurd q.1 (by show ¬ (2 : Nat) = 0; decide), fun _ p np => have kn : Kp M0 H (upd H p (.tup [x])) := Kp.new np; k p [x] _ kn upd_same ⟨h1.kp kn, trivial⟩⟩) (fun c => absurd c (by decide +kernel))⟩
  | make n e f g =>
    unfold SmAt at hs
    obtain ⟨a, x, y, z, rfl, et, h1, h2, h3⟩ := hs
    refine ⟨_, rfl, a, _, 0, _, rfl, rfl, SqT.of et, rfl, ?_⟩
    exact ⟨_, rfl, rfl, _, rfl, hit (fun c => absurd c (by decide +kernel)) (fun _ => ⟨_, rfl, rfl, _, rfl, hit (fun _ => ⟨_, rfl, 2, rfl, a, _, rfl, SqT.of et, fun q => absurd q.1 (by show ¬ (2 : Nat) = 0; decide), fun _ p np => have kn : Kp M0 H (upd H p (.tup [x, y, z])) := Kp.new np; k p [x, y, z] _ kn upd_same ⟨h1.kp kn, h2.kp kn, h3.kp kn, trivial⟩⟩) (fun c => absurd c (by decide +kernel))⟩)⟩
  | push e f g =>
    unfold SmAt at hs
    obtain ⟨a, x, y, z, rfl, et, h1, h2, h3⟩ := hs
    refine ⟨_, rfl, a, _, 0, _, rfl, rfl, SqT.of et, rfl, ?_⟩
    exact ⟨_, rfl, rfl, _, rfl, hit (fun c => absurd c (by decide +kernel)) (fun _ => ⟨_, rfl, rfl, _, rfl, hit (fun c => absurd c (by decide +kernel)) (fun _ => ⟨_, rfl, rfl, _, rfl, hit (fun c => absurd c (by decide +kernel)) (fun _ => ⟨_, rfl, rfl, _, rfl, hit (fun c => absurd c (by decide +kernel)) (fun _ => ⟨_, rfl, 1, rfl, a, _, rfl, SqT.of et, fun q => absurd q.1 (by show ¬ (1 : Nat) = 0; decide), fun _ p np => have kn : Kp M0 H (upd H p (.tup [x, y, z])) := Kp.new np; k p [x, y, z] _ kn upd_same ⟨h1.kp kn, h2.kp kn, h3.kp kn, trivial⟩⟩)⟩)⟩)⟩)⟩
  | gone =>
    unfold SmAt at hs
    obtain ⟨a, rfl, et⟩ := hs
    refine ⟨_, rfl, a, _, 0, _, rfl, rfl, SqT.of et, rfl, ?_⟩
    exact ⟨_, rfl, rfl, _, rfl, hit (fun c => absurd c (by decide +kernel)) (fun _ => ⟨_, rfl, rfl, _, rfl, hit (fun c => absurd c (by decide +kernel)) (fun _ => ⟨_, rfl, rfl, _, rfl, hit (fun c => absurd c (by decide +kernel)) (fun _ => ⟨_, rfl, rfl, _, rfl, hit (fun c => absurd c (by decide +kernel)) (fun _ => ⟨_, rfl, 1, rfl, a, _, rfl, SqT.of et, fun q => absurd q.1 (by show ¬ (1 : Nat) = 0; decide), fun _ p np => have kn : Kp M0 H (upd H p (.tup [])) := Kp.new np; k p [] _ kn upd_same trivial⟩)⟩)⟩)⟩)⟩
  | say e =>
    unfold SmAt at hs
    obtain ⟨a, x, rfl, et, h1⟩ := hs
    refine ⟨_, rfl, a, _, 0, _, rfl, rfl, SqT.of et, rfl, ?_⟩
    exact ⟨_, rfl, rfl, _, rfl, hit (fun c => absurd c (by decide +kernel)) (fun _ => ⟨_, rfl, rfl, _, rfl, hit (fun c => absurd c (by decide +kernel)) (fun _ => ⟨_, rfl, rfl, _, rfl, hit (fun c => absurd c (by decide +kernel)) (fun _ => ⟨_, rfl, rfl, _, rfl, hit (fun c => absurd c (by decide +kernel)) (fun _ => ⟨_, rfl, 1, rfl, a, _, rfl, SqT.of et, fun q => absurd q.1 (by show ¬ (1 : Nat) = 0; decide), fun _ p np => have kn : Kp M0 H (upd H p (.tup [x])) := Kp.new np; k p [x] _ kn upd_same ⟨h1.kp kn, trivial⟩⟩)⟩)⟩)⟩)⟩
  | ite e l r =>
    unfold SmAt at hs
    obtain ⟨a, x, b1, b2, xs, ys, rfl, et, h1, h2, h3, h4, h5⟩ := hs
    refine ⟨_, rfl, a, _, 0, _, rfl, rfl, SqT.of et, rfl, ?_⟩
    exact ⟨_, rfl, rfl, _, rfl, hit (fun c => absurd c (by decide +kernel)) (fun _ => ⟨_, rfl, rfl, _, rfl, hit (fun c => absurd c (by decide +kernel)) (fun _ => ⟨_, rfl, rfl, _, rfl, hit (fun _ => iteT ⟨_, rfl, 1, rfl, 2, rfl, a, _, rfl, SqT.of et, fun q => absurd q.1 (by show ¬ (1 : Nat) = 0; decide), fun _ p np => have kn : Kp M0 H (upd H p (.tup [x])) := Kp.new np; k p [x] _ kn upd_same ⟨h1.kp kn, trivial⟩⟩) (fun c => absurd c (by decide +kernel))⟩)⟩)⟩
  | whl e l =>
    unfold SmAt at hs
    obtain ⟨a, x, b1, xs, rfl, et, h1, h2, h3⟩ := hs
    refine ⟨_, rfl, a, _, 0, _, rfl, rfl, SqT.of et, rfl, ?_⟩
    exact ⟨_, rfl, rfl, _, rfl, hit (fun c => absurd c (by decide +kernel)) (fun _ => ⟨_, rfl, rfl, _, rfl, hit (fun c => absurd c (by decide +kernel)) (fun _ => ⟨_, rfl, rfl, _, rfl, hit (fun c => absurd c (by decide +kernel)) (fun _ => ⟨_, rfl, rfl, _, rfl, hit (fun _ => ⟨_, rfl, 1, rfl, 2, rfl, a, _, rfl, SqT.of et, fun q => absurd q.1 (by show ¬ (1 : Nat) = 0; decide), fun _ p np => have kn : Kp M0 H (upd H p (.tup [x])) := Kp.new np; k p [x] _ kn upd_same ⟨h1.kp kn, trivial⟩⟩) (fun c => absurd c (by decide +kernel))⟩)⟩)⟩)⟩
theorem scp_bodies_of : FnScope ["statement"] ["statement"] (defScope sp_bodies_of) := ⟨rfl, rfl, rfl, by decide +kernel, rfl, by decide +kernel, by decide +kernel⟩
theorem ok_p_bodies_of (T : Tx w K mg) : Cal P w K mg base "bodies_of" 1 ["statement"] spBodiesOf := by
  obtain ⟨fd, F⟩ : ∃ fd, Fun K "bodies_of" "bodies_of" sp_bodies_of 255 fd := T.fn 11 _ rfl
  refine T.cal F 64 rfl (fun _ _ _ _ _ _ us hl => match us, hl with | [_], _ => rfl) ?_
  refine F.ok scp_bodies_of (fun vs H Q E h => ?_) (fun cdv A outer s H vs Q E hr h => ?_)
  · obtain ⟨v, s, rfl, _⟩ := h
    rfl
  obtain ⟨v, s, rfl, hs, k⟩ := h
  refine ⟨_, (pss_cons (ps_if (PW.pt (pw_or (pt_cmpR op_eq (pe_ix ix_tup (pv 0) pe_int (fun _ _ => rfl)) (gc T 58 (.str "if") rfl) (nomark _)) (pw_or1 (pt_cmpR op_eq (pe_ix ix_tup (pv 0) pe_int (fun _ _ => rfl)) (gc T 59 (.str "while") rfl) (nomark _))))) (pss_one (ps_ret (pe_slice sl_tupA (pv 0) (po_some pe_int) po_none))) pss_nil)
    (pss_one (ps_ret (pe_tup pa_nil)))), ?_⟩
  cases s with
  | set w e =>
    unfold SmAt at hs
    obtain ⟨a, x, rfl, et, h1⟩ := hs
    exact ⟨_, rfl, a, _, 0, _, rfl, rfl, SqT.of et, rfl, rfl, _, rfl, hit (fun c => absurd c (by decide +kernel)) (fun _ => ⟨_, rfl, a, _, 0, _, rfl, rfl, SqT.of et, rfl, rfl, _, rfl, hit (fun c => absurd c (by decide +kernel)) (fun _ => ⟨(by show 0 ≤ sizeLine; decide), fun p np => k p [] _ (Kp.new np) upd_same trivial⟩)⟩)⟩
  | make n e f g =>
    unfold SmAt at hs
    obtain ⟨a, x, y, z, rfl, et, h1, h2, h3⟩ := hs
    exact ⟨_, rfl, a, _, 0, _, rfl, rfl, SqT.of et, rfl, rfl, _, rfl, hit (fun c => absurd c (by decide +kernel)) (fun _ => ⟨_, rfl, a, _, 0, _, rfl, rfl, SqT.of et, rfl, rfl, _, rfl, hit (fun c => absurd c (by decide +kernel)) (fun _ => ⟨(by show 0 ≤ sizeLine; decide), fun p np => k p [] _ (Kp.new np) upd_same trivial⟩)⟩)⟩
  | push e f g =>
    unfold SmAt at hs
    obtain ⟨a, x, y, z, rfl, et, h1, h2, h3⟩ := hs
    exact ⟨_, rfl, a, _, 0, _, rfl, rfl, SqT.of et, rfl, rfl, _, rfl, hit (fun c => absurd c (by decide +kernel)) (fun _ => ⟨_, rfl, a, _, 0, _, rfl, rfl, SqT.of et, rfl, rfl, _, rfl, hit (fun c => absurd c (by decide +kernel)) (fun _ => ⟨(by show 0 ≤ sizeLine; decide), fun p np => k p [] _ (Kp.new np) upd_same trivial⟩)⟩)⟩
  | gone =>
    unfold SmAt at hs
    obtain ⟨a, rfl, et⟩ := hs
    exact ⟨_, rfl, a, _, 0, _, rfl, rfl, SqT.of et, rfl, rfl, _, rfl, hit (fun c => absurd c (by decide +kernel)) (fun _ => ⟨_, rfl, a, _, 0, _, rfl, rfl, SqT.of et, rfl, rfl, _, rfl, hit (fun c => absurd c (by decide +kernel)) (fun _ => ⟨(by show 0 ≤ sizeLine; decide), fun p np => k p [] _ (Kp.new np) upd_same trivial⟩)⟩)⟩
  | say e =>
    unfold SmAt at hs
    obtain ⟨a, x, rfl, et, h1⟩ := hs
    exact ⟨_, rfl, a, _, 0, _, rfl, rfl, SqT.of et, rfl, rfl, _, rfl, hit (fun c => absurd c (by decide +kernel)) (fun _ => ⟨_, rfl, a, _, 0, _, rfl, rfl, SqT.of et, rfl, rfl, _, rfl, hit (fun c => absurd c (by decide +kernel)) (fun _ => ⟨(by show 0 ≤ sizeLine; decide), fun p np => k p [] _ (Kp.new np) upd_same trivial⟩)⟩)⟩
  | ite e l r =>
    unfold SmAt at hs
    obtain ⟨a, x, b1, b2, xs, ys, rfl, et, h1, h2, h3, h4, h5⟩ := hs
    exact ⟨_, rfl, a, _, 0, _, rfl, rfl, SqT.of et, rfl, rfl, _, rfl, hit (fun _ => iteT ⟨_, rfl, 2, rfl, a, _, rfl, SqT.of et, fun q => absurd q.1 (by show ¬ (2 : Nat) = 0; decide), fun _ p np => have kn : Kp M0 H (upd H p (.tup [.ref b1, .ref b2])) := Kp.new np; k p [.ref b1, .ref b2] _ kn upd_same ⟨⟨b1, xs, rfl, kn.tup _ _ h2, BdAt.kp kn _ _ h3⟩, ⟨b2, ys, rfl, kn.tup _ _ h4, BdAt.kp kn _ _ h5⟩, trivial⟩⟩) (fun c => absurd c (by decide +kernel))⟩
  | whl e l =>
    unfold SmAt at hs
    obtain ⟨a, x, b1, xs, rfl, et, h1, h2, h3⟩ := hs
    exact ⟨_, rfl, a, _, 0, _, rfl, rfl, SqT.of et, rfl, rfl, _, rfl, hit (fun c => absurd c (by decide +kernel)) (fun _ => ⟨_, rfl, a, _, 0, _, rfl, rfl, SqT.of et, rfl, rfl, _, rfl, hit (fun _ => ⟨_, rfl, 2, rfl, a, _, rfl, SqT.of et, fun q => absurd q.1 (by show ¬ (2 : Nat) = 0; decide), fun _ p np => have kn : Kp M0 H (upd H p (.tup [.ref b1])) := Kp.new np; k p [.ref b1] _ kn upd_same ⟨⟨b1, xs, rfl, kn.tup _ _ h2, BdAt.kp kn _ _ h3⟩, trivial⟩⟩) (fun c => absurd c (by decide +kernel))⟩)⟩
theorem scp_has_form : FnScope ["thing"] ["thing"] (defScope sp_has_form) := ⟨rfl, rfl, rfl, by decide +kernel, rfl, by decide +kernel, by decide +kernel⟩
theorem ok_p_has_form (T : Tx w K mg) : Cal P w K mg base "has_form" 4 ["thing"] spForm := by
  obtain ⟨fd, F⟩ : ∃ fd, Fun K "has_form" "has_form" sp_has_form 262 fd := T.fn 12 _ rfl
  refine T.cal F 65 rfl (fun _ _ _ _ _ _ us hl => match us, hl with | [_], _ => rfl) ?_
  refine F.ok scp_has_form (fun vs H Q E h => ?_) (fun cdv A outer s H vs Q E hr h => ?_)
  · obtain ⟨v, s, rfl, _⟩ := h
    rfl
  obtain ⟨v, s, rfl, hs, hok, k⟩ := h
  obtain ⟨des, dn, KD⟩ := T.kd
  refine ⟨_, (pss_cons (ps_if (PW.pt (pw_or (pt_not (pt_val (pe_callB call_isi rfl (fr_isinstance T) (by decide +kernel) (pa_cons (pv 0) (pa_cons (pe_bltn (v := .ty "tuple") rfl (fr_tuple T) (by decide +kernel) rfl) pa_nil))))) (pw_or (pt_cmpR op_eq (pe_callB call_len_seq rfl (fr_len T) (by decide +kernel) (pa_cons (pv 0) pa_nil)) pe_int (nomark _)) (pw_or1 (pt_not (pt_val (pe_callB call_isi rfl (fr_isinstance T) (by decide +kernel) (pa_cons (pe_ix ix_tup (pv 0) pe_int (fun _ _ => rfl)) (pa_cons (pe_bltn (v := .ty "str") rfl (fr_str T) (by decide +kernel) rfl) pa_nil))))))))) (pss_one (ps_ret pe_bl)) pss_nil)
    (pss_cons (ps_if (pt_cmpR op_ne (pe_kget2 KD (gc T 61 (.ref 236) rfl) (pe_ix ix_tup (pv 0) pe_int (fun _ _ => rfl)) pe_int ⟨rfl, by rfl, by rfl, by rfl⟩) (pe_callB call_len_seq rfl (fr_len T) (by decide +kernel) (pa_cons (pv 0) pa_nil)) (nomark _)) (pss_one (ps_ret pe_bl)) pss_nil)
    (pss_cons (ps_if (pt_cmpR op_eq (pe_ix ix_tup (pv 0) pe_int (fun _ _ => rfl)) (gc T 53 (.str "set") rfl) (nomark _)) (pss_one (ps_ret (pe_k (ok_p_is_word T) (hr.mono (by decide)) (pa_cons (pe_ix ix_tup (pv 0) pe_int (fun _ _ => rfl)) (pa_cons (gc T 47 (.ref 226) rfl) pa_nil))))) pss_nil)
    (pss_one (ps_ret (pe_or (pe_cmpR op_ne (pe_ix ix_tup (pv 0) pe_int (fun _ _ => rfl)) (gc T 54 (.str "make") rfl) (nomark _)) (pe_one (pe_k (ok_p_is_below T) (hr.mono (by decide)) (pa_cons (pe_ix ix_tup (pv 0) pe_int (fun _ _ => rfl)) (pa_cons (gc T 41 (.int (8)) rfl) pa_nil)))))))))), ?_⟩
  cases s with
  | set w e =>
    unfold SmAt at hs
    obtain ⟨a, x, rfl, et, h1⟩ := hs
    unfold Sm.ok at hok
    obtain ⟨u0, hu0, ru0⟩ := T.kv ("set", .int 3) (by simp [lensV])
    refine ⟨_, rfl, .ref a, .ty "tuple", .type "tuple", .type "tuple", true, rfl, .ty _, tyTup (SqT.of et), kit_ty (by decide +kernel), _, rfl, iteF ?_⟩
    refine ⟨_, rfl, a, _, rfl, .inr (SqT.of et), rfl, _, rfl, hit (fun c => absurd c (by show ¬ (decide (V.int 3 = V.int 0) = true); decide)) (fun _ => ?_)⟩
    refine ⟨_, rfl, a, _, 0, _, rfl, rfl, SqT.of et, rfl, .str "set", .ty "str", .type "str", .type "str", true, rfl, .ty _, .base (.str _), kit_ty (by decide +kernel), _, rfl, iteF ?_⟩
    refine ⟨rfl, _, rfl, a, _, 0, _, rfl, rfl, SqT.of et, rfl, "set", u0, .int 3, rfl, hu0, ru0, _, rfl, a, _, rfl, .inr (SqT.of et), rfl, _, rfl, hit (fun c => absurd c (by show ¬ ((!decide (V.int 3 = V.int 3)) = true); decide)) (fun _ => ?_)⟩
    exact ⟨_, rfl, a, _, 0, _, rfl, rfl, SqT.of et, rfl, rfl, _, rfl, hit (fun _ => ⟨_, rfl, a, _, 1, _, rfl, rfl, SqT.of et, rfl, w.str, 226, setsL, rfl, T.sqT mem_sets _, nm_sets hok.1, k⟩) (fun c => absurd c (by decide +kernel))⟩
  | make n e f g =>
    unfold SmAt at hs
    obtain ⟨a, x, y, z, rfl, et, h1, h2, h3⟩ := hs
    unfold Sm.ok at hok
    obtain ⟨u0, hu0, ru0⟩ := T.kv ("make", .int 5) (by simp [lensV])
    refine ⟨_, rfl, .ref a, .ty "tuple", .type "tuple", .type "tuple", true, rfl, .ty _, tyTup (SqT.of et), kit_ty (by decide +kernel), _, rfl, iteF ?_⟩
    refine ⟨_, rfl, a, _, rfl, .inr (SqT.of et), rfl, _, rfl, hit (fun c => absurd c (by show ¬ (decide (V.int 5 = V.int 0) = true); decide)) (fun _ => ?_)⟩
    refine ⟨_, rfl, a, _, 0, _, rfl, rfl, SqT.of et, rfl, .str "make", .ty "str", .type "str", .type "str", true, rfl, .ty _, .base (.str _), kit_ty (by decide +kernel), _, rfl, iteF ?_⟩
    refine ⟨rfl, _, rfl, a, _, 0, _, rfl, rfl, SqT.of et, rfl, "make", u0, .int 5, rfl, hu0, ru0, _, rfl, a, _, rfl, .inr (SqT.of et), rfl, _, rfl, hit (fun c => absurd c (by show ¬ ((!decide (V.int 5 = V.int 5)) = true); decide)) (fun _ => ?_)⟩
    exact ⟨_, rfl, a, _, 0, _, rfl, rfl, SqT.of et, rfl, rfl, _, rfl, hit (fun c => absurd c (by decide +kernel)) (fun _ => ⟨_, rfl, a, _, 0, _, rfl, rfl, SqT.of et, rfl, rfl, _, rfl, hit (fun c => absurd c (by decide +kernel)) (fun _ => ⟨_, rfl, a, _, 1, _, rfl, rfl, SqT.of et, rfl, n, 8, rfl, hok.1.1, by omega, k⟩)⟩)⟩
  | push e f g =>
    unfold SmAt at hs
    obtain ⟨a, x, y, z, rfl, et, h1, h2, h3⟩ := hs
    unfold Sm.ok at hok
    obtain ⟨u0, hu0, ru0⟩ := T.kv ("push", .int 4) (by simp [lensV])
    refine ⟨_, rfl, .ref a, .ty "tuple", .type "tuple", .type "tuple", true, rfl, .ty _, tyTup (SqT.of et), kit_ty (by decide +kernel), _, rfl, iteF ?_⟩
    refine ⟨_, rfl, a, _, rfl, .inr (SqT.of et), rfl, _, rfl, hit (fun c => absurd c (by show ¬ (decide (V.int 4 = V.int 0) = true); decide)) (fun _ => ?_)⟩
    refine ⟨_, rfl, a, _, 0, _, rfl, rfl, SqT.of et, rfl, .str "push", .ty "str", .type "str", .type "str", true, rfl, .ty _, .base (.str _), kit_ty (by decide +kernel), _, rfl, iteF ?_⟩
    refine ⟨rfl, _, rfl, a, _, 0, _, rfl, rfl, SqT.of et, rfl, "push", u0, .int 4, rfl, hu0, ru0, _, rfl, a, _, rfl, .inr (SqT.of et), rfl, _, rfl, hit (fun c => absurd c (by show ¬ ((!decide (V.int 4 = V.int 4)) = true); decide)) (fun _ => ?_)⟩
    exact ⟨_, rfl, a, _, 0, _, rfl, rfl, SqT.of et, rfl, rfl, _, rfl, hit (fun c => absurd c (by decide +kernel)) (fun _ => ⟨_, rfl, a, _, 0, _, rfl, rfl, SqT.of et, rfl, rfl, _, rfl, hit (fun _ => k) (fun c => absurd c (by decide +kernel))⟩)⟩
  | gone =>
    unfold SmAt at hs
    obtain ⟨a, rfl, et⟩ := hs
    unfold Sm.ok at hok
    obtain ⟨u0, hu0, ru0⟩ := T.kv ("gone", .int 1) (by simp [lensV])
    refine ⟨_, rfl, .ref a, .ty "tuple", .type "tuple", .type "tuple", true, rfl, .ty _, tyTup (SqT.of et), kit_ty (by decide +kernel), _, rfl, iteF ?_⟩
    refine ⟨_, rfl, a, _, rfl, .inr (SqT.of et), rfl, _, rfl, hit (fun c => absurd c (by show ¬ (decide (V.int 1 = V.int 0) = true); decide)) (fun _ => ?_)⟩
    refine ⟨_, rfl, a, _, 0, _, rfl, rfl, SqT.of et, rfl, .str "gone", .ty "str", .type "str", .type "str", true, rfl, .ty _, .base (.str _), kit_ty (by decide +kernel), _, rfl, iteF ?_⟩
    refine ⟨rfl, _, rfl, a, _, 0, _, rfl, rfl, SqT.of et, rfl, "gone", u0, .int 1, rfl, hu0, ru0, _, rfl, a, _, rfl, .inr (SqT.of et), rfl, _, rfl, hit (fun c => absurd c (by show ¬ ((!decide (V.int 1 = V.int 1)) = true); decide)) (fun _ => ?_)⟩
    exact ⟨_, rfl, a, _, 0, _, rfl, rfl, SqT.of et, rfl, rfl, _, rfl, hit (fun c => absurd c (by decide +kernel)) (fun _ => ⟨_, rfl, a, _, 0, _, rfl, rfl, SqT.of et, rfl, rfl, _, rfl, hit (fun _ => k) (fun c => absurd c (by decide +kernel))⟩)⟩
  | say e =>
    unfold SmAt at hs
    obtain ⟨a, x, rfl, et, h1⟩ := hs
    unfold Sm.ok at hok
    obtain ⟨u0, hu0, ru0⟩ := T.kv ("say", .int 2) (by simp [lensV])
    refine ⟨_, rfl, .ref a, .ty "tuple", .type "tuple", .type "tuple", true, rfl, .ty _, tyTup (SqT.of et), kit_ty (by decide +kernel), _, rfl, iteF ?_⟩
    refine ⟨_, rfl, a, _, rfl, .inr (SqT.of et), rfl, _, rfl, hit (fun c => absurd c (by show ¬ (decide (V.int 2 = V.int 0) = true); decide)) (fun _ => ?_)⟩
    refine ⟨_, rfl, a, _, 0, _, rfl, rfl, SqT.of et, rfl, .str "say", .ty "str", .type "str", .type "str", true, rfl, .ty _, .base (.str _), kit_ty (by decide +kernel), _, rfl, iteF ?_⟩
    refine ⟨rfl, _, rfl, a, _, 0, _, rfl, rfl, SqT.of et, rfl, "say", u0, .int 2, rfl, hu0, ru0, _, rfl, a, _, rfl, .inr (SqT.of et), rfl, _, rfl, hit (fun c => absurd c (by show ¬ ((!decide (V.int 2 = V.int 2)) = true); decide)) (fun _ => ?_)⟩
    exact ⟨_, rfl, a, _, 0, _, rfl, rfl, SqT.of et, rfl, rfl, _, rfl, hit (fun c => absurd c (by decide +kernel)) (fun _ => ⟨_, rfl, a, _, 0, _, rfl, rfl, SqT.of et, rfl, rfl, _, rfl, hit (fun _ => k) (fun c => absurd c (by decide +kernel))⟩)⟩
  | ite e l r =>
    unfold SmAt at hs
    obtain ⟨a, x, b1, b2, xs, ys, rfl, et, h1, h2, h3, h4, h5⟩ := hs
    unfold Sm.ok at hok
    obtain ⟨u0, hu0, ru0⟩ := T.kv ("if", .int 4) (by simp [lensV])
    refine ⟨_, rfl, .ref a, .ty "tuple", .type "tuple", .type "tuple", true, rfl, .ty _, tyTup (SqT.of et), kit_ty (by decide +kernel), _, rfl, iteF ?_⟩
    refine ⟨_, rfl, a, _, rfl, .inr (SqT.of et), rfl, _, rfl, hit (fun c => absurd c (by show ¬ (decide (V.int 4 = V.int 0) = true); decide)) (fun _ => ?_)⟩
    refine ⟨_, rfl, a, _, 0, _, rfl, rfl, SqT.of et, rfl, .str "if", .ty "str", .type "str", .type "str", true, rfl, .ty _, .base (.str _), kit_ty (by decide +kernel), _, rfl, iteF ?_⟩
    refine ⟨rfl, _, rfl, a, _, 0, _, rfl, rfl, SqT.of et, rfl, "if", u0, .int 4, rfl, hu0, ru0, _, rfl, a, _, rfl, .inr (SqT.of et), rfl, _, rfl, hit (fun c => absurd c (by show ¬ ((!decide (V.int 4 = V.int 4)) = true); decide)) (fun _ => ?_)⟩
    exact ⟨_, rfl, a, _, 0, _, rfl, rfl, SqT.of et, rfl, rfl, _, rfl, hit (fun c => absurd c (by decide +kernel)) (fun _ => ⟨_, rfl, a, _, 0, _, rfl, rfl, SqT.of et, rfl, rfl, _, rfl, hit (fun _ => k) (fun c => absurd c (by decide +kernel))⟩)⟩
  | whl e l =>
    unfold SmAt at hs
    obtain ⟨a, x, b1, xs, rfl, et, h1, h2, h3⟩ := hs
    unfold Sm.ok at hok
    obtain ⟨u0, hu0, ru0⟩ := T.kv ("while", .int 3) (by simp [lensV])
    refine ⟨_, rfl, .ref a, .ty "tuple", .type "tuple", .type "tuple", true, rfl, .ty _, tyTup (SqT.of et), kit_ty (by decide +kernel), _, rfl, iteF ?_⟩
    refine ⟨_, rfl, a, _, rfl, .inr (SqT.of et), rfl, _, rfl, hit (fun c => absurd c (by show ¬ (decide (V.int 3 = V.int 0) = true); decide)) (fun _ => ?_)⟩
    refine ⟨_, rfl, a, _, 0, _, rfl, rfl, SqT.of et, rfl, .str "while", .ty "str", .type "str", .type "str", true, rfl, .ty _, .base (.str _), kit_ty (by decide +kernel), _, rfl, iteF ?_⟩
    refine ⟨rfl, _, rfl, a, _, 0, _, rfl, rfl, SqT.of et, rfl, "while", u0, .int 3, rfl, hu0, ru0, _, rfl, a, _, rfl, .inr (SqT.of et), rfl, _, rfl, hit (fun c => absurd c (by show ¬ ((!decide (V.int 3 = V.int 3)) = true); decide)) (fun _ => ?_)⟩
    exact ⟨_, rfl, a, _, 0, _, rfl, rfl, SqT.of et, rfl, rfl, _, rfl, hit (fun c => absurd c (by decide +kernel)) (fun _ => ⟨_, rfl, a, _, 0, _, rfl, rfl, SqT.of et, rfl, rfl, _, rfl, hit (fun _ => k) (fun c => absurd c (by decide +kernel))⟩)⟩
end
end G
set_option Elab.async false
set_option linter.all false
set_option maxRecDepth 100000
set_option maxHeartbeats 4000000
namespace G
open PySem PySem.Spec PyProof.Rows L2
def spSSize (n : Nat) : Sp := fun vs H Q _ => ∃ (d : Int) (v : V) (s : Sm), vs = [.int d, v] ∧ SmAt H s v ∧ s.ok ∧ (s.bd : Int) + 1 ≤ d ∧ d ≤ n ∧ ∀ t H', Kp M0 H H' → H' t = some (.tup [.int s.cnt, .int s.prt]) → Q (.ref t) H'
def spBSize (n : Nat) : Sp := fun vs H Q _ => ∃ (d : Int) (v : V) (l : List Sm), vs = [.int d, v] ∧ BtAt H v l ∧ oks l ∧ (bds l : Int) ≤ d ∧ d ≤ n ∧ ∀ t H', Kp M0 H H' → H' t = some (.tup [.int (cnts l), .int (prts l)]) → Q (.ref t) H'
theorem Sm.fits {s : Sm} (h : s.ok) : ∀ e ∈ s.exprs, e.fit := by
  cases s <;> unfold Sm.ok at h <;> intro e he <;> simp only [Sm.exprs, List.mem_cons, List.not_mem_nil, or_false] at he
  · rw [he]; exact h.2
  · rcases he with q | q | q <;> rw [q]
    · exact h.2.1
    · exact h.2.2.1
    · exact h.2.2.2
  · rcases he with q | q | q <;> rw [q]
    · exact h.1
    · exact h.2.1
    · exact h.2.2
  · rw [he]; exact h
  · rw [he]; exact h.1
  · rw [he]; exact h.1
theorem Sm.prt_eq (s : Sm) : (s.exprs.map fun e => (e.sz : Int)).sum + (s.bods.map fun l => (prts l : Int)).sum = (s.prt : Int) := by
  cases s <;> simp only [Sm.exprs, Sm.bods, Sm.prt, List.map_cons, List.map_nil, List.sum_cons, List.sum_nil] <;> omega
theorem Sm.cnt_eq (s : Sm) : 1 + (s.bods.map fun l => (cnts l : Int)).sum = (s.cnt : Int) := by
  cases s <;> simp only [Sm.bods, Sm.cnt, List.map_cons, List.map_nil, List.sum_cons, List.sum_nil] <;> omega
theorem Sm.bd_of {s : Sm} {l : List Sm} (h : l ∈ s.bods) : bds l ≤ s.bd := by
  cases s <;> simp only [Sm.bods, List.mem_cons, List.not_mem_nil, or_false] at h
  · rcases h with q | q <;> rw [q] <;> simp only [Sm.bd] <;> omega
  · rw [h]; simp only [Sm.bd]; omega
theorem Sm.oks_of {s : Sm} (k : s.ok) {l : List Sm} (h : l ∈ s.bods) : oks l := by
  cases s <;> simp only [Sm.bods, List.mem_cons, List.not_mem_nil, or_false] at h
  · unfold Sm.ok at k
    rcases h with q | q <;> rw [q]
    · exact k.2.1
    · exact k.2.2
  · unfold Sm.ok at k
    rw [h]; exact k.2
theorem Sm.exprs_len (s : Sm) : s.exprs.length ≤ 3 := by cases s <;> simp [Sm.exprs]
theorem Sm.bods_len (s : Sm) : s.bods.length ≤ 2 := by cases s <;> simp [Sm.bods]
theorem all_true : ∀ (es : List Ex), (∀ e ∈ es, e.sz ≤ 40) → (es.map fun e => decide ((e.sz : Int) ≤ 40)).all id = true
  | [], _ => rfl
  | e :: r, h => by
    rw [List.map_cons, List.all_cons, all_true r fun x hx => h x (List.mem_cons_of_mem _ hx)]
    have := h e (List.mem_cons_self ..)
    simp
    omega
theorem oks_get : ∀ {l : List Sm} {i : Nat} {s : Sm}, oks l → l[i]? = some s → s.ok
  | [], _, _, _, e => by simp at e
  | t :: r, 0, s, h, e => by
    rw [← show t = s by simpa using e]
    unfold oks at h
    exact h.1
  | t :: r, i + 1, s, h, e => by
    unfold oks at h
    exact oks_get (i := i) h.2 (by simpa using e)
theorem bds_get : ∀ {l : List Sm} {i : Nat} {s : Sm}, l[i]? = some s → s.bd + 1 ≤ bds l
  | [], _, _, e => by simp at e
  | t :: r, 0, s, e => by
    rw [← show t = s by simpa using e]
    simp only [bds]
    omega
  | t :: r, i + 1, s, e => by
    have := bds_get (l := r) (i := i) (s := s) (by simpa using e)
    simp only [bds]
    omega
section
variable {P : Program} {w : World} {K : PySem.W.Frag} {mg : Str → Option Value} {base : Heap}
theorem scp_statement_size : FnScope ["deep", "thing", "sizes", "part", "size", "found", "body", "some"] ["deep", "thing"] (defScope sp_statement_size) := ⟨rfl, rfl, rfl, by decide +kernel, rfl, by decide +kernel, by decide +kernel⟩
theorem ok_p_ssize1 {n : Nat} (B : Cal P w K mg base "body_size" (16 + 2 * n) ["deep", "thing"] (spBSize n)) (T : Tx w K mg) : Cal P w K mg base "statement_size" (16+2*n+1) ["deep", "thing"] (spSSize (n+1)) := by
  obtain ⟨fd, F⟩ : ∃ fd, Fun K "statement_size" "statement_size" sp_statement_size 267 fd := T.fn 13 _ rfl
  refine T.cal F 66 rfl (fun _ _ _ _ _ _ us hl => match us, hl with | [_, _], _ => rfl) ?_
  refine F.ok scp_statement_size (fun vs H Q E h => ?_) (fun cdv A outer s H vs Q E hr h => ?_)
  · obtain ⟨d, v, e, rfl, _⟩ := h
    rfl
  obtain ⟨d, v, st, rfl, hs, hok, h1, h2, k⟩ := h
  refine ⟨_, (pss_cons (ps_if (pt_not (pt_val (pe_k (ok_p_has_form T) (hr.mono (by omega)) (pa_cons (pv 1) pa_nil)))) (pss_one (ps_ret pe_non)) pss_nil)
    (pss_cons (ps_setLc (i := 2) (own := [("part", 3)]) (g := gName 3) (by rfl) scp_statement_size.nd rfl rfl (sw_true rfl rfl rfl (by decide +kernel)) (pi_tup (pe_k (ok_p_expressions_of T) (hr.mono (by omega)) (pa_cons (pv 1) pa_nil))) (blkOk_by (own := [("part", 3)]) (N := ["deep", "thing", "sizes", "part", "size", "found", "body", "some"]) (sc := defScope sp_statement_size) (by decide +kernel)) (fun _ _ _ _ _ => pg_name (i := 3) scp_statement_size.nd rfl (Or.inl rfl)) (fun _ _ _ _ _ => pts_nil) (fun _ _ _ _ _ => (pe_k (ok_p_esize T 10) (hr.mono (by omega)) (pa_cons (gc T 36 (.int (10)) rfl) (pa_cons (pv 3) pa_nil)))))
    (pss_cons (ps_if (PW.pt (pw_or (pt_cmpR op_in_seq pe_non (pv 2) (by rfl)) (pw_or1 (pt_not (pt_val (pe_callB (cr_all rfl) rfl (fr_all T) (by decide +kernel) (pa_cons (pe_lc (own := [("size", 4)]) (g := gName 4) (by rfl) scp_statement_size.nd (pi_list (pv 2)) (blkOk_by (own := [("size", 4)]) (N := ["deep", "thing", "sizes", "part", "size", "found", "body", "some"]) (sc := defScope sp_statement_size) (by decide +kernel)) (fun _ _ _ _ _ => pg_name (i := 4) scp_statement_size.nd rfl (Or.inl rfl)) (fun _ _ _ _ _ => pts_nil) (fun _ _ _ _ _ => (pe_cmpR op_le (pv 4) (gc T 37 (.int (40)) rfl) (nomark _)))) pa_nil))))))) (pss_one (ps_ret pe_non)) pss_nil)
    (pss_cons (ps_set (i := 5) scp_statement_size.nd rfl (Or.inl rfl) (pe_tup (pa_cons pe_int (pa_cons (pe_callB (cr_sum rfl) rfl (fr_sum T) (by decide +kernel) (pa_cons (pv 2) pa_nil)) pa_nil))))
    (pss_cons (ps_for PassesOwn.never rfl (pi_tup (pe_k (ok_p_bodies_of T) (hr.mono (by omega)) (pa_cons (pv 1) pa_nil))) (pg_name (i := 6) scp_statement_size.nd rfl (Or.inl rfl))
      (pss_cons (ps_set (i := 7) scp_statement_size.nd rfl (Or.inl rfl) (pe_k B (hr.mono (by omega)) (pa_cons (pe_op op_sub (pv 0) pe_int) (pa_cons (pv 6) pa_nil))))
    (pss_cons (ps_if (pt_cmpR op_isN (pv 7) pe_non (nomark _)) (pss_one (ps_ret pe_non)) pss_nil)
    (pss_one (ps_set (i := 5) scp_statement_size.nd rfl (Or.inl rfl) (pe_tup (pa_cons (pe_op op_add (pe_ix ix_tup (pv 5) pe_int (fun _ _ => rfl)) (pe_ix ix_tup (pv 7) pe_int (fun _ _ => rfl))) (pa_cons (pe_op op_add (pe_ix ix_tup (pv 5) pe_int (fun _ _ => rfl)) (pe_ix ix_tup (pv 7) pe_int (fun _ _ => rfl))) pa_nil))))))))
    (pss_one (ps_ret (pv 5)))))))), ?_⟩
  refine ⟨_, rfl, v, st, rfl, hs, hok, _, rfl, iteF ?_⟩
  refine ⟨_, rfl, v, st, rfl, hs, fun t xs H1 kp1 et hx => ⟨t, rfl, ⟨_, SqT.of et⟩, fun D nD => ?_⟩⟩
  have hfit := Sm.fits hok
  have hel := st.exprs_len
  have hxl := hx.len
  refine lc_tup (xs := xs) (fun j H' => Kp M0 H1 H' ∧ H' D = some (.lst (((st.exprs.take j).map fun e => (e.sz : Int)).map V.int))) ?_ ?_ ?_ ?_
  · exact ⟨Kp.new nD, upd_same⟩
  · rintro i Hj _ ⟨kpj, _⟩
    exact SqT.of (kpj.tup _ _ et)
  · rintro j x Hj hj ⟨kpj, eD⟩
    obtain ⟨f, ef, hf⟩ := hx.getL hj
    have hfa := hfit f (List.mem_of_getElem? ef)
    refine ⟨rfl, _, rfl, 10, x, f, rfl, ExA.kp hf kpj, hfa.1, by have := hfa.2.2; omega, by decide, fun Hk kpk => ?_⟩
    refine ⟨_, kpk.keep _ _ eD id, Nat.lt_of_le_of_lt (show _ ≤ 100 by rw [List.length_map, List.length_map, List.length_take]; omega) (by decide), (kpj.trans kpk).priv nD, ?_⟩
    rw [upd_same, List.take_add_one, ef, List.map_append, List.map_append]
    rfl
  rintro H2 ⟨kp2, eD⟩
  rw [show xs.length = st.exprs.length from hxl, List.take_length] at eD
  refine ⟨_, rfl, D, _, rfl, .inl (SqL.of eD), rfl, flat_ints _, ?_⟩
  show ∃ c, V.bl (inV .non _) = V.bl c ∧ _
  rw [noNone]
  refine ⟨_, rfl, iteF ?_⟩
  refine ⟨_, rfl, D, rfl, ⟨_, SqL.of eD⟩, fun D2 nD2 => ?_⟩
  have ne2 : D ≠ D2 := ne_of_none eD nD2
  refine lc_list (xs := (st.exprs.map fun e => (e.sz : Int)).map V.int) (fun j H' => Kp M0 H2 H' ∧ H' D = some (.lst ((st.exprs.map fun e => (e.sz : Int)).map V.int)) ∧ H' D2 = some (.lst (((st.exprs.take j).map fun e => decide ((e.sz : Int) ≤ 40)).map V.bl))) ?_ ?_ ?_ ?_
  · exact ⟨Kp.new nD2, by rw [upd_ne ne2]; exact eD, upd_same⟩
  · rintro i H' _ ⟨_, e, _⟩
    exact SqL.of e
  · rintro j x Hj hj ⟨kpj, e1, e2⟩
    rw [List.getElem?_map, List.getElem?_map] at hj
    cases q : st.exprs[j]? with
    | none => rw [q] at hj; cases hj
    | some f =>
      rw [q] at hj
      cases hj
      refine ⟨rfl, _, rfl, _, _, rfl, rfl, _, e2, Nat.lt_of_le_of_lt (show _ ≤ 100 by rw [List.length_map, List.length_map, List.length_take]; omega) (by decide), kpj.priv nD2, by rw [upd_ne ne2]; exact e1, ?_⟩
      rw [upd_same, List.take_add_one, q, List.map_append, List.map_append]
      rfl
  rintro H3 ⟨kp3, e1, e2⟩
  rw [List.length_map, List.length_map, List.take_length] at e2
  refine ⟨D2, _, rfl, SqL.of e2, ?_⟩
  rw [all_true _ fun e he => (hfit e he).2.1]
  refine ⟨_, rfl, iteF ?_⟩
  refine ⟨_, rfl, D, _, rfl, SqL.of e1, (by show 2 ≤ sizeLine; decide), fun f nf => ?_⟩
  have kpf : Kp M0 H3 (upd H3 f (.tup [.int 1, .int (st.exprs.map fun e => (e.sz : Int)).sum])) := Kp.new nf
  have k04 := kp1.trans (kp2.trans (kp3.trans kpf))
  refine ⟨_, rfl, v, st, rfl, SmAt.kp k04 _ _ hs, fun t2 ys H5 kp5 et2 hy => ⟨t2, rfl, ⟨_, SqT.of et2⟩, ?_⟩⟩
  have ef5 := kp5.tup _ _ (upd_same : (upd H3 f (.tup [.int 1, .int (st.exprs.map fun e => (e.sz : Int)).sum])) f = _)
  have k05 := k04.trans kp5
  refine for_tup (xs := ys) (fun i σ' H' => ∃ (f' : Addr) (k1 k2 : Option V), σ' = [some (.int d), some v, some (.ref D), none, none, some (.ref f'), k1, k2] ∧ Kp M0 H5 H' ∧ H' f' = some (.tup [.int (1 + ((st.bods.take i).map fun l => (cnts l : Int)).sum), .int ((st.exprs.map fun e => (e.sz : Int)).sum + ((st.bods.take i).map fun l => (prts l : Int)).sum)])) ?_ ?_ ?_ ?_
  · exact ⟨f, none, none, rfl, Kp.rfl, by rw [ef5]; simp⟩
  · rintro i σ' H' _ ⟨_, _, _, _, kp, _⟩
    exact SqT.of (kp.tup _ _ et2)
  · rintro i x σ' H6 hi ⟨f', k1, k2, rfl, kp6, ef'⟩
    obtain ⟨l, el, hl⟩ := hy.getL hi
    have hmem := List.mem_of_getElem? el
    have hbd := Sm.bd_of hmem
    refine ⟨_, rfl, _, _, rfl, rfl, _, rfl, d - 1, x, l, rfl, hl.kp kp6, Sm.oks_of hok hmem, by omega, by omega, fun t3 H7 kp7 e3 => ?_⟩
    refine ⟨_, rfl, rfl, _, rfl, hit (fun c => nomatch of_decide_eq_true c) (fun _ => ?_)⟩
    have ef7 := kp7.tup _ _ ef'
    refine ⟨_, rfl, f', _, 0, _, rfl, rfl, SqT.of ef7, rfl, _, rfl, t3, _, 0, _, rfl, rfl, SqT.of e3, rfl, _, _, rfl, rfl, _, rfl, f', _, 1, _, rfl, rfl, SqT.of ef7, rfl, _, rfl, t3, _, 1, _, rfl, rfl, SqT.of e3, rfl, _, _, rfl, rfl, (by show 2 ≤ sizeLine; decide), fun g ng => ?_⟩
    refine ⟨g, _, _, rfl, (kp6.trans kp7).trans (Kp.new ng), ?_⟩
    rw [upd_same, List.take_add_one, el, List.map_append, List.map_append, List.sum_append, List.sum_append]
    simp only [Option.toList, List.map_cons, List.map_nil, List.sum_cons, List.sum_nil]
    have a1 : ∀ S c : Int, 1 + (S + (c + 0)) = 1 + S + c := by intros; omega
    have a2 : ∀ E T p : Int, E + (T + (p + 0)) = E + T + p := by intros; omega
    rw [a1, a2]
  · rintro σ' H6 ⟨f', k1, k2, rfl, kp6, ef'⟩
    rw [show ys.length = st.bods.length from hy.len, List.take_length, Sm.cnt_eq, Sm.prt_eq] at ef'
    exact ⟨_, rfl, k _ _ (k05.trans kp6) ef'⟩
theorem scp_body_size : FnScope ["deep", "thing", "found", "statement", "some"] ["deep", "thing"] (defScope sp_body_size) := ⟨rfl, rfl, rfl, by decide +kernel, rfl, by decide +kernel, by decide +kernel⟩
theorem ok_p_bsize1 {n : Nat} (S : Cal P w K mg base "statement_size" (15 + 2 * n) ["deep", "thing"] (spSSize n)) (T : Tx w K mg) : Cal P w K mg base "body_size" (15+2*n+1) ["deep", "thing"] (spBSize n) := by
  obtain ⟨fd, F⟩ : ∃ fd, Fun K "body_size" "body_size" sp_body_size 274 fd := T.fn 14 _ rfl
  refine T.cal F 67 rfl (fun _ _ _ _ _ _ us hl => match us, hl with | [_, _], _ => rfl) ?_
  refine F.ok scp_body_size (fun vs H Q E h => ?_) (fun cdv A outer s H vs Q E hr h => ?_)
  · obtain ⟨d, v, l, rfl, _⟩ := h
    rfl
  obtain ⟨d, v, l, rfl, ⟨t, xs, rfl, et, hb⟩, hok, h1, h2, k⟩ := h
  refine ⟨_, (pss_cons (ps_if (PW.pt (pw_or (pt_cmpR op_lt (pv 0) pe_int (nomark _)) (pw_or1 (pt_not (pt_val (pe_callB call_isi rfl (fr_isinstance T) (by decide +kernel) (pa_cons (pv 1) (pa_cons (pe_bltn (v := .ty "tuple") rfl (fr_tuple T) (by decide +kernel) rfl) pa_nil)))))))) (pss_one (ps_ret pe_non)) pss_nil)
    (pss_cons (ps_set (i := 2) scp_body_size.nd rfl (Or.inl rfl) (pe_tup (pa_cons pe_int (pa_cons pe_int pa_nil))))
    (pss_cons (ps_for PassesOwn.never rfl (pi_tup (pv 1)) (pg_name (i := 3) scp_body_size.nd rfl (Or.inl rfl))
      (pss_cons (ps_set (i := 4) scp_body_size.nd rfl (Or.inl rfl) (pe_k S (hr.mono (by omega)) (pa_cons (pv 0) (pa_cons (pv 3) pa_nil))))
    (pss_cons (ps_if (pt_cmpR op_isN (pv 4) pe_non (nomark _)) (pss_one (ps_ret pe_non)) pss_nil)
    (pss_one (ps_set (i := 2) scp_body_size.nd rfl (Or.inl rfl) (pe_tup (pa_cons (pe_op op_add (pe_ix ix_tup (pv 2) pe_int (fun _ _ => rfl)) (pe_ix ix_tup (pv 4) pe_int (fun _ _ => rfl))) (pa_cons (pe_op op_add (pe_ix ix_tup (pv 2) pe_int (fun _ _ => rfl)) (pe_ix ix_tup (pv 4) pe_int (fun _ _ => rfl))) pa_nil))))))))
    (pss_one (ps_ret (pv 2)))))), ?_⟩
  have hp := bds_pos l
  refine ⟨_, rfl, _, _, rfl, rfl, _, rfl, hit (fun c => absurd (of_decide_eq_true c) (by omega)) (fun _ => ?_)⟩
  refine ⟨_, rfl, .ref t, .ty "tuple", .type "tuple", .type "tuple", true, rfl, .ty _, tyTup (SqT.of et), kit_ty (by decide +kernel), _, rfl, iteF ?_⟩
  refine ⟨(by show 2 ≤ sizeLine; decide), fun f nf => ?_⟩
  have kpf : Kp M0 H (upd H f (.tup [.int 0, .int 0])) := Kp.new nf
  refine ⟨_, rfl, t, rfl, ⟨_, SqT.of (kpf.tup _ _ et)⟩, ?_⟩
  refine for_tup (xs := xs) (fun i σ' H' => ∃ (f' : Addr) (k1 k2 : Option V), σ' = [some (.int d), some (.ref t), some (.ref f'), k1, k2] ∧ Kp M0 H H' ∧ H' f' = some (.tup [.int (cnts (l.take i)), .int (prts (l.take i))])) ?_ ?_ ?_ ?_
  · exact ⟨f, none, none, rfl, kpf, upd_same⟩
  · rintro i σ' H' _ ⟨_, _, _, _, kp, _⟩
    exact SqT.of (kp.tup _ _ et)
  · rintro i x σ' H6 hi ⟨f', k1, k2, rfl, kp6, ef'⟩
    obtain ⟨s, es, hs⟩ := BdAt.get hb hi
    refine ⟨_, rfl, _, rfl, d, x, s, rfl, SmAt.kp kp6 _ _ hs, oks_get hok es, by have := bds_get es; omega, h2, fun t3 H7 kp7 e3 => ?_⟩
    refine ⟨_, rfl, rfl, _, rfl, hit (fun c => nomatch of_decide_eq_true c) (fun _ => ?_)⟩
    have ef7 := kp7.tup _ _ ef'
    refine ⟨_, rfl, f', _, 0, _, rfl, rfl, SqT.of ef7, rfl, _, rfl, t3, _, 0, _, rfl, rfl, SqT.of e3, rfl, _, _, rfl, rfl, _, rfl, f', _, 1, _, rfl, rfl, SqT.of ef7, rfl, _, rfl, t3, _, 1, _, rfl, rfl, SqT.of e3, rfl, _, _, rfl, rfl, (by show 2 ≤ sizeLine; decide), fun g ng => ?_⟩
    refine ⟨g, _, _, rfl, (kp6.trans kp7).trans (Kp.new ng), ?_⟩
    rw [upd_same, List.take_add_one, es]
    simp only [Option.toList]
    rw [cnts_snoc, prts_snoc]
    rfl
  · rintro σ' H6 ⟨f', k1, k2, rfl, kp6, ef'⟩
    rw [show xs.length = l.length from hb.len, List.take_length] at ef'
    exact ⟨_, rfl, k _ _ kp6 ef'⟩
theorem ok_p_bsize (T : Tx w K mg) : ∀ n : Nat, Cal P w K mg base "body_size" (16 + 2 * n) ["deep", "thing"] (spBSize n)
  | 0 => by
    obtain ⟨fd, F⟩ : ∃ fd, Fun K "body_size" "body_size" sp_body_size 274 fd := T.fn 14 _ rfl
    exact T.cal F 67 rfl (fun _ _ _ _ _ _ us hl => match us, hl with | [_, _], _ => rfl) (fnok_none fun vs H Q E h => by
      obtain ⟨d, v, l, _, _, _, d1, d2, _⟩ := h
      have := bds_pos l
      have : d ≤ 0 := d2
      omega)
  | n + 1 => (ok_p_bsize1 ((ok_p_ssize1 (ok_p_bsize T n) T).mono (by omega)) T).mono (by omega)
def spIsHandler : Sp := fun vs H Q _ => ∃ (v : V) (l : List Sm), vs = [v] ∧ BtAt H v l ∧ HdOk l ∧ ∀ H', Kp M0 H H' → Q (.bl true) H'
theorem scp_is_handler : FnScope ["thing", "size"] ["thing"] (defScope sp_is_handler) := ⟨rfl, rfl, rfl, by decide +kernel, rfl, by decide +kernel, by decide +kernel⟩
theorem ok_p_is_handler (T : Tx w K mg) : Cal P w K mg base "is_handler" 27 ["thing"] spIsHandler := by
  obtain ⟨fd, F⟩ : ∃ fd, Fun K "is_handler" "is_handler" sp_is_handler 281 fd := T.fn 15 _ rfl
  refine T.cal F 68 rfl (fun _ _ _ _ _ _ us hl => match us, hl with | [_], _ => rfl) ?_
  refine F.ok scp_is_handler (fun vs H Q E h => ?_) (fun cdv A outer s H vs Q E hr h => ?_)
  · obtain ⟨v, l, rfl, _⟩ := h
    rfl
  obtain ⟨v, l, rfl, hb, ⟨h1, h2, h3, h4, h5⟩, k⟩ := h
  refine ⟨_, (pss_cons (ps_set (i := 1) scp_is_handler.nd rfl (Or.inl rfl) (pe_k (ok_p_bsize T 5) (hr.mono (by decide)) (pa_cons (gc T 38 (.int (5)) rfl) (pa_cons (pv 0) pa_nil))))
    (pss_one (ps_ret (pe_and (pe_cmpR op_notN (pv 1) pe_non (nomark _)) (pe_and (pe_cmpR op_le (pe_ix ix_tup (pv 1) pe_int (fun _ _ => rfl)) (gc T 39 (.int (50)) rfl) (nomark _)) (pe_one (pe_cmpR op_le (pe_ix ix_tup (pv 1) pe_int (fun _ _ => rfl)) (gc T 40 (.int (400)) rfl) (nomark _)))))))), ?_⟩
  refine ⟨_, rfl, 5, v, l, rfl, hb, h1, by omega, by decide, fun t H1 kp et => ?_⟩
  refine ⟨_, rfl, rfl, _, rfl, hit (fun _ => ?_) (fun c => nomatch (by simpa using c : V.ref t = V.non))⟩
  refine ⟨_, rfl, t, _, 0, _, rfl, rfl, SqT.of et, rfl, _, _, rfl, rfl, _, rfl, hit (fun _ => ?_) (fun c => absurd (of_decide_eq_false c) (by omega))⟩
  refine ⟨_, rfl, t, _, 1, _, rfl, rfl, SqT.of et, rfl, _, _, rfl, rfl, ?_⟩
  show Q (.bl (decide ((prts l : Int) ≤ 400))) H1
  rw [decide_eq_true (by omega)]
  exact k _ kp
end
end G
set_option Elab.async false
set_option linter.all false
set_option maxRecDepth 100000
set_option maxHeartbeats 4000000
namespace G
open PySem PySem.Spec PyProof.Rows L2
/-- the lock is off again -/
theorem Kp.unlock {H H' : Hp} {d : Addr} {od : Obj} {u : HO} (k : Kp M0 (upd H d (.frz od u)) H') (h : H d = some u) (n : notTup u) : Kp M0 H (upd H' d u) := by
  refine ⟨fun a o e _ => ?_, fun a xs e => ?_⟩
  · by_cases z : a = d
    · subst z
      rw [upd_same, ← e, h]
    · rw [upd_ne z]
      exact k.keep a o (by rw [upd_ne z]; exact e) id
  · have z : a ≠ d := fun z => by
      rw [z, h] at e
      cases e
      exact n
    rw [upd_ne z]
    exact k.tup a xs (by rw [upd_ne z]; exact e)
def spAreWords : Sp := fun vs H Q _ => ∃ (d : Addr) (kvs : List (Key × V)), vs = [.ref d] ∧ H d = some (.dK kvs) ∧ kvs.length ≤ 3 ∧ (∀ p ∈ kvs, ∃ e : Ev, p.1 = Sum.inr e.str) ∧ ∀ H', Kp M0 H H' → Q (.bl true) H'
theorem ev_in (e : Ev) : e.str ∈ (["tick", "touch", "wall"] : List Str) := by cases e <;> decide +kernel
theorem reps_true : ∀ n : Nat, (List.replicate n true).all id = true
  | 0 => rfl
  | n + 1 => by rw [List.replicate_succ, List.all_cons, reps_true n]; rfl
section
variable {P : Program} {w : World} {K : PySem.W.Frag} {mg : Str → Option Value} {base : Heap}
theorem scp_are_words : FnScope ["thing", "key"] ["thing"] (defScope sp_are_words) := ⟨rfl, rfl, rfl, by decide +kernel, rfl, by decide +kernel, by decide +kernel⟩
theorem ok_p_are_words (T : Tx w K mg) : Cal P w K mg base "are_words" 2 ["thing"] spAreWords := by
  obtain ⟨fd, F⟩ : ∃ fd, Fun K "are_words" "are_words" sp_are_words 286 fd := T.fn 16 _ rfl
  refine T.cal F 69 rfl (fun _ _ _ _ _ _ us hl => match us, hl with | [_], _ => rfl) ?_
  refine F.ok scp_are_words (fun vs H Q E h => ?_) (fun cdv A outer s H vs Q E hr h => ?_)
  · obtain ⟨d, kvs, rfl, _⟩ := h
    rfl
  obtain ⟨d, kvs, rfl, hd, hl, hk, k⟩ := h
  refine ⟨_, (pss_one (ps_ret (pe_and (pe_callB call_isi rfl (fr_isinstance T) (by decide +kernel) (pa_cons (pv 0) (pa_cons (pe_bltn (v := .ty "dict") rfl (fr_dict T) (by decide +kernel) rfl) pa_nil))) (pe_one (pe_callB (cr_all rfl) rfl (fr_all T) (by decide +kernel) (pa_cons (pe_lock (pe_lc (own := [("key", 1)]) (g := gName 1) (by rfl) scp_are_words.nd (pi_keys (pv 0)) (blkOk_by (own := [("key", 1)]) (N := ["thing", "key"]) (sc := defScope sp_are_words) (by decide +kernel)) (fun _ _ _ _ _ => pg_name (i := 1) scp_are_words.nd rfl (Or.inl rfl)) (fun _ _ _ _ _ => pts_nil) (fun _ _ _ _ _ => (pe_k (ok_p_is_word T) (hr.mono (by decide)) (pa_cons (pv 1) (pa_cons (gc T 60 (.ref 235) rfl) pa_nil)))))) pa_nil)))))), ?_⟩
  refine ⟨_, rfl, .ref d, .ty "dict", .type "dict", .type "dict", true, rfl, .ty _, .base (.dK hd), kit_ty (by decide +kernel), _, rfl, iteT ?_⟩
  refine ⟨d, _, hd, trivial, fun od => ?_⟩
  have eK : (upd H d (.frz od (.dK kvs))) d = some (.frz od (.dK kvs)) := upd_same
  generalize eH : upd H d (.frz od (.dK kvs)) = H1 at eK
  refine ⟨_, rfl, d, od, rfl, .inl ⟨kvs, eK, fun D nD => ?_⟩⟩
  have nDd : d ≠ D := ne_of_none eK nD
  refine lc_it (J := Itk d od kvs) (n := kvs.length) (G := fun H => H d = some (.frz od (.dK kvs))) (Y := fun i H x H' => H' = H ∧ ∃ k v, kvs[i]? = some (k, v) ∧ x = kV k) ⟨fun i H hi e => ⟨e, hi⟩, fun H e => ⟨e, Nat.le_refl _⟩, fun i H x H' hi e y => y⟩
    (fun j H' => Kp M0 H1 H' ∧ H' d = some (.frz od (.dK kvs)) ∧ H' D = some (.lst ((List.replicate j true).map V.bl))) ?_ ?_ ?_ ?_
  · exact ⟨Kp.new nD, by rw [upd_ne nDd]; exact eK, upd_same⟩
  · rintro i H' _ ⟨_, e, _⟩
    exact e
  · rintro j x Hj H' hj ⟨kpj, e1, e2⟩ ⟨rfl, key, vv, ek, rfl⟩
    obtain ⟨e, ee⟩ := hk _ (List.mem_of_getElem? ek)
    have ee : key = Sum.inr e.str := ee
    subst ee
    refine ⟨rfl, _, rfl, e.str, 235, _, rfl, T.sqT mem_events _, ev_in e, _, e2, Nat.lt_of_le_of_lt (show _ ≤ 100 by rw [List.length_map, List.length_replicate]; omega) (by decide), kpj.priv nD, by rw [upd_ne nDd]; exact e1, ?_⟩
    rw [upd_same, List.replicate_succ', List.map_append]
    rfl
  rintro Hj ⟨kpj, e1, e2⟩
  refine ⟨e1, D, _, rfl, SqL.of (by rw [upd_ne nDd.symm]; exact e2), ?_⟩
  rw [reps_true]
  exact k _ (Kp.unlock (by rw [eH]; exact kpj) hd trivial)
end
end G
set_option Elab.async false
set_option linter.all false
set_option maxRecDepth 100000
set_option maxHeartbeats 4000000
namespace G
open PySem PySem.Spec PyProof.Rows L2
abbrev evL : List Ev := [.tick, .touch, .wall]
def PgAt (H : Hp) (a : Addr) (hs : Hs) : Prop := ∃ dx d mc, H a = some (.ins cProgram dx [("handlers", .ref d), ("made_codes", .ref mc)]) ∧ HsAt H d hs
def spPgInit : Sp := fun vs H Q _ => ∃ (x d dx : Addr) (hs : Hs), vs = [.ref x, .ref d] ∧ H x = some (.ins cProgram dx []) ∧ HsAt H d hs ∧
  ∀ H' d2 mc, Kp (fun a => a = x) H H' → H' x = some (.ins cProgram dx [("handlers", .ref d2), ("made_codes", .ref mc)]) → HsAt H' d2 hs → Q .non H'
theorem dget_of {H : Hp} {d : Addr} {kvs : List (Key × V)} (h : H d = some (.dK kvs)) (z : Str) : DGet H d (.str z) (valV kvs (Sum.inr z)) := .inl ⟨kvs, Sum.inr z, .inl h, rfl, rfl⟩
theorem evS {w : World} {K : PySem.W.Frag} {mg : Str → Option Value} (T : Tx w K mg) (H : Hp) : SqT K H 235 (evL.map fun e : Ev => V.str e.str) := T.sqT mem_events H
theorem evL_all (e : Ev) : e ∈ evL := by cases e <;> simp
section
variable {P : Program} {w : World} {K : PySem.W.Frag} {mg : Str → Option Value} {base : Heap}
theorem scm_Program_init : FnScope ["self", "handlers", "word"] ["self", "handlers"] (defScope sm_Program_init) := ⟨rfl, rfl, rfl, by decide +kernel, rfl, by decide +kernel, by decide +kernel⟩
theorem ok_m_Program_init (T : Tx w K mg) : CalI P w K mg base cProgram "Program" 28 ["self", "handlers"] spPgInit := by
  obtain ⟨fd, F⟩ : ∃ fd, Fun K "__init__" "Program.__init__" sm_Program_init 298 fd := T.fn 17 _ rfl
  refine T.calI F (T.mkc (cProgram, 298) (by simp [mkL])) 70 rfl (fun _ _ _ _ _ _ us hl => match us, hl with | [_, _], _ => rfl) ?_
  refine F.ok scm_Program_init (fun vs H Q E h => ?_) (fun cdv A outer s H vs Q E hr h => ?_)
  · obtain ⟨x, d, dx, hs, rfl, _⟩ := h
    rfl
  obtain ⟨x, d, dx, hs, rfl, hx, ⟨kvs, hd, hl, hk, hv⟩, k⟩ := h
  have hu := hu_of hr
  refine ⟨_, (pss_cons (ps_if (pt_not (pt_val (pe_k (ok_p_are_words T) (hr.mono (by decide)) (pa_cons (pv 1) pa_nil)))) (pss_one ps_never) pss_nil)
    (pss_cons (ps_for PassesOwn.never rfl (pi_tup (gc T 60 (.ref 235) rfl)) (pg_name (i := 2) scm_Program_init.nd rfl (Or.inl rfl))
      (pss_one (ps_if (PW.pt (pw_and (pt_cmp (pc_din hu (pv 2) (pv 1))) (pw_and1 (pt_not (pt_val (pe_k (ok_p_is_handler T) (hr.mono (by decide)) (pa_cons (pe_dget hu (pv 1) (pv 2) (fun _ _ => rfl)) pa_nil))))))) (pss_one ps_never) pss_nil)))
    (pss_cons (ps_fld (pv 0) (pe_dc (own := [("word", 2)]) (g := gName 2) (by rfl) scm_Program_init.nd (pi_tup (gc T 60 (.ref 235) rfl)) (blkOk_by (own := [("word", 2)]) (N := ["self", "handlers", "word"]) (sc := defScope sm_Program_init) (by decide +kernel)) (fun _ _ _ _ _ => pg_name (i := 2) scm_Program_init.nd rfl (Or.inl rfl)) (fun _ _ _ _ _ => (pts_one (pt_cmp (pc_din hu (pv 2) (pv 1))))) (fun _ _ _ _ _ => (pv 2)) (fun _ _ _ _ _ => (pe_dget hu (pv 1) (pv 2) (fun _ _ => rfl)))) rfl)
    (pss_one (ps_fld (pv 0) pe_dnewK rfl))))), ?_⟩
  have dne : d ≠ x := fun z => by rw [z, hx] at hd; cases hd
  refine ⟨_, rfl, d, kvs, rfl, hd, hl, hk, fun H1 kp1 => ⟨_, rfl, iteF ?_⟩⟩
  refine ⟨235, rfl, ⟨_, T.sqT mem_events _⟩, ?_⟩
  refine for_tup (xs := evL.map fun e : Ev => V.str e.str) (fun i σ' H' => ∃ k1, σ' = [some (.ref x), some (.ref d), k1] ∧ Kp M0 H H') ⟨none, rfl, kp1⟩ (fun i σ' H' _ _ => evS T H') ?_ ?_
  · rintro i y σ' H2 hi ⟨k1, rfl, kp2⟩
    obtain ⟨ev, _, rfl⟩ : ∃ ev, evL[i]? = some ev ∧ V.str ev.str = y := by
      rw [List.getElem?_map] at hi
      cases q : evL[i]? with
      | none => rw [q] at hi; cases hi
      | some ev => rw [q] at hi; exact ⟨ev, rfl, Option.some.inj hi⟩
    have hd2 := kp2.keep _ _ hd id
    have hv2 := (hv ev).kp kp2
    refine ⟨_, rfl, _, rfl, d, _, rfl, dget_of hd2 _, ?_⟩
    cases q : hs ev with
    | none =>
      rw [q] at hv2
      rw [show valV kvs (Sum.inr ev.str) = none from hv2]
      exact ⟨_, rfl, iteF (iteF ⟨_, rfl, kp2⟩)⟩
    | some l =>
      rw [q] at hv2
      obtain ⟨t, xs, e1, e2, e3, e4⟩ := hv2
      rw [e1]
      refine ⟨_, rfl, iteT ⟨_, rfl, _, rfl, d, .ref t, rfl, by rw [← e1]; exact dget_of hd2 _, .ref t, l, rfl, ⟨t, xs, rfl, e2, e3⟩, e4, fun H3 kp3 => ⟨_, rfl, iteF ⟨_, rfl, kp2.trans kp3⟩⟩⟩⟩
  · rintro σ' H2 ⟨k1, rfl, kp2⟩
    have hd2 := kp2.keep _ _ hd id
    refine ⟨235, rfl, ⟨_, T.sqT mem_events _⟩, fun D nD => ?_⟩
    refine dc_tup (xs := evL.map fun e : Ev => V.str e.str) (fun j H' => Kp M0 H2 H' ∧ ∃ kv2 : List (Key × V), H' D = some (.dK kv2) ∧ kv2.length ≤ j ∧ (∀ p ∈ kv2, ∃ e : Ev, p.1 = Sum.inr e.str) ∧ ∀ e : Ev, HvAt H' (if e ∈ evL.take j then hs e else none) (valV kv2 (Sum.inr e.str))) ?_ (fun i H' _ _ => evS T H') ?_ ?_
    · exact ⟨Kp.new nD, [], upd_same, Nat.le_refl _, fun p hp => absurd hp (by simp), fun e => rfl⟩
    · rintro j y H3 hj ⟨kp3, kv2, eD, hl2, hk2, hv2⟩
      obtain ⟨ev, hev, rfl⟩ : ∃ ev, evL[j]? = some ev ∧ V.str ev.str = y := by
        rw [List.getElem?_map] at hj
        cases q : evL[j]? with
        | none => rw [q] at hj; cases hj
        | some ev => rw [q] at hj; exact ⟨ev, rfl, Option.some.inj hj⟩
      have j3 : j < 3 := (List.getElem?_eq_some_iff.mp hev).1
      have tk : ∀ e : Ev, (e ∈ evL.take (j + 1)) ↔ (e ∈ evL.take j ∨ e = ev) := fun e => by
        rw [List.take_add_one, hev]
        simp
      have hd3 := kp3.keep _ _ hd2 id
      have hv3 := ((hv ev).kp kp2).kp kp3
      refine ⟨rfl, _, rfl, _, rfl, d, _, rfl, dget_of hd3 _, ?_⟩
      cases q : hs ev with
      | none =>
        rw [q] at hv3
        rw [show valV kvs (Sum.inr ev.str) = none from hv3]
        refine ⟨_, rfl, iteF ⟨kp3, kv2, eD, by omega, hk2, fun e => ?_⟩⟩
        by_cases z : e ∈ evL.take j
        · have := hv2 e
          rw [if_pos z] at this
          rw [if_pos ((tk e).mpr (.inl z))]
          exact this
        · have := hv2 e
          rw [if_neg z] at this
          by_cases z2 : e = ev
          · rw [if_pos ((tk e).mpr (.inr z2)), z2, q]
            rw [z2] at this
            exact this
          · rw [if_neg (fun m => ((tk e).mp m).elim z z2)]
            exact this
      | some l =>
        rw [q] at hv3
        obtain ⟨t, xs, e1, e2, e3, e4⟩ := hv3
        rw [e1]
        have kw : Kp (fun a => a = D) H3 (upd H3 D (.dK (putK kv2 (Sum.inr ev.str) (.ref t)))) := Kp.rfl.set rfl (not_tup eD trivial)
        refine ⟨_, rfl, iteT ⟨_, rfl, _, rfl, _, rfl, d, .ref t, rfl, by rw [← e1]; exact dget_of hd3 _, kv2, Sum.inr ev.str, rfl, eD, Nat.lt_of_le_of_lt (show kv2.length ≤ 100 by omega) (by decide), kp3.priv nD, _, upd_same, ?_, ?_, fun e => ?_⟩⟩
        · have := length_putK kv2 (Sum.inr ev.str : Key) (V.ref t)
          omega
        · intro p hp
          unfold putK at hp
          split at hp
          · obtain ⟨q, hq, e⟩ := List.mem_map.mp hp
            obtain ⟨e1, h1⟩ := hk2 q hq
            refine ⟨e1, ?_⟩
            rw [← e]
            split <;> exact h1
          · rcases List.mem_append.mp hp with z | z
            · exact hk2 p z
            · rw [List.mem_singleton.mp z]
              exact ⟨ev, rfl⟩
        · rw [valV_put]
          by_cases z2 : e = ev
          · rw [if_pos ((tk e).mpr (.inr z2)), z2, q, if_pos rfl]
            exact ⟨t, xs, rfl, kw.tup _ _ e2, BdAt.kp kw _ _ e3, e4⟩
          · rw [if_neg (fun m => z2 (Ev.inj (Sum.inr.inj m)))]
            have := (hv2 e).kp kw
            by_cases z : e ∈ evL.take j
            · rw [if_pos z] at this
              rw [if_pos ((tk e).mpr (.inl z))]
              exact this
            · rw [if_neg z] at this
              rw [if_neg (fun m => ((tk e).mp m).elim z z2)]
              exact this
    rintro H3 ⟨kp3, kv2, eD, hl2, hk2, hv2⟩
    have hx3 := kp3.keep _ _ (kp2.keep _ _ hx id) id
    have xD : x ≠ D := fun z => by rw [z, eD] at hx3; cases hx3
    have kw1 : Kp (fun a => a = x) H3 (upd H3 x (.ins cProgram dx [("handlers", .ref D)])) := Kp.rfl.set rfl (not_tup hx3 trivial)
    refine ⟨_, rfl, x, _, dx, _, rfl, hx3, T.cl _ mem_cProgram, T.no (cProgram, "handlers") (by simp [noL]), by decide, fun mc nm => ?_⟩
    have nmx : mc ≠ x := (ne_of_none (upd_same : (upd H3 x _) x = _) nm).symm
    refine ⟨_, rfl, x, _, dx, [("handlers", .ref D)], rfl, by rw [upd_ne nmx.symm]; exact upd_same, T.cl _ mem_cProgram, T.no (cProgram, "made_codes") (by simp [noL]), (by show 1 < 1000; decide), ?_⟩
    have kmc : Kp (fun a => a = x) (upd H3 x (.ins cProgram dx [("handlers", .ref D)])) (upd (upd H3 x (.ins cProgram dx [("handlers", .ref D)])) mc (.dK [])) := Kp.new nm
    have kw2 : Kp (fun a => a = x) (upd (upd H3 x (.ins cProgram dx [("handlers", .ref D)])) mc (.dK [])) (upd (upd (upd H3 x (.ins cProgram dx [("handlers", .ref D)])) mc (.dK [])) x (.ins cProgram dx [("handlers", .ref D), ("made_codes", .ref mc)])) := Kp.rfl.set rfl (not_tup (o := .ins cProgram dx [("handlers", .ref D)]) (by rw [upd_ne nmx.symm]; exact upd_same) trivial)
    have kall := kw1.trans (kmc.trans kw2)
    refine k _ D mc (((kp2.trans kp3).weak fun _ z => z.elim).trans kall) upd_same ⟨kv2, kall.keep _ _ eD xD.symm, by simpa using hl2, hk2, fun e => ?_⟩
    have := (hv2 e).kp kall
    rw [if_pos (show e ∈ evL.take (evL.map fun e => V.str e.str).length from evL_all e)] at this
    exact this
end
end G
set_option Elab.async false
set_option linter.all false
set_option maxRecDepth 100000
set_option maxHeartbeats 4000000
namespace G
open PySem PySem.Spec PyProof.Rows L2
theorem kit_self {K : PySem.W.Frag} (C : Addr) : PySem.W.kitOne K (.ref C) (.ref C) = some true := by
  unfold PySem.W.kitOne
  rw [if_pos (beq_self_eq_true _)]
theorem Tx.tyO {w : World} {K : PySem.W.Frag} {mg : Str → Option Value} (T : Tx w K mg) {H : Hp} {a C dx : Addr} {fs : List (Str × V)} (hC : C ∈ clsL) (e : H a = some (.ins C dx fs)) : TyX K H (.ref a) (.ref C) :=
  .base (.ins e (T.cl C hC) (T.ic C hC).ha (T.ic C hC).hn (T.ic C hC).htk (T.ic C hC).hm)
def PoAt (H : Hp) : Option Hs → V → Prop
  | none, v => v = .non
  | some f, v => ∃ a, v = .ref a ∧ PgAt H a f
theorem PgAt.kp {M : Addr → Prop} {H H' : Hp} (k : Kp M H H') {a : Addr} {hs : Hs} (h : PgAt H a hs) (n : ¬ M a) (n2 : NoD M H) : PgAt H' a hs := by
  obtain ⟨dx, d, mc, h1, h2⟩ := h
  exact ⟨dx, d, mc, k.keep _ _ h1 n, h2.kp k (by obtain ⟨kvs, e, _⟩ := h2; exact n2 d kvs e)⟩
theorem PoAt.kp0 {H H' : Hp} (k : Kp M0 H H') {o : Option Hs} {v : V} (h : PoAt H o v) : PoAt H' o v := by
  cases o with
  | none => exact h
  | some f =>
    obtain ⟨a, e, h1⟩ := h
    exact ⟨a, e, h1.kp k id noD0⟩
/-- what an instance just laid leaves: all that was there stays -/
theorem Kp.made {H H2 H' : Hp} {x dx : Addr} {o1 o2 : HO} (hx : H x = none) (hd : H dx = none) (e : H2 = upd (upd H dx o1) x o2) (k : Kp (fun a => a = x) H2 H') : Kp M0 H H' := by
  have k1 : Kp M0 H (upd H dx o1) := Kp.new hd
  refine Kp.then (M := M0) (M2 := fun a => a = x) (H1 := H2) ?_ k fun a z => .inr (by rw [z]; exact hx)
  rw [e]
  exact k1.priv hx
def spProgOf : Sp := fun vs H Q _ => ∃ (v : V) (o : Option Hs), vs = [v] ∧ HoAt H o v ∧ ∀ u H', Kp M0 H H' → PoAt H' o u → Q u H'
def kiF (wd hg : Int) (u : V) : List (Str × V) := [("wide", .int wd), ("high", .int hg), ("solid", .bl false), ("pull", .int 0), ("program", u)]
def KiAt (H : Hp) (v : V) (k : Kd) : Prop := ∃ a dx u, v = .ref a ∧ H a = some (.ins cKind dx (kiF k.wd k.hg u)) ∧ PoAt H k.hs u
theorem KiAt.kp0 {H H' : Hp} (k : Kp M0 H H') {v : V} {x : Kd} (h : KiAt H v x) : KiAt H' v x := by
  obtain ⟨a, dx, u, h1, h2, h3⟩ := h
  exact ⟨a, dx, u, h1, k.keep _ _ h2 id, h3.kp0 k⟩
def spKiInit : Sp := fun vs H Q _ => ∃ (x dx : Addr) (wd hg : Int) (u : V) (o : Option Hs), vs = [.ref x, .int wd, .int hg, .bl false, .int 0, u] ∧ H x = some (.ins cKind dx []) ∧ (1 ≤ wd ∧ wd ≤ 8 ∧ 1 ≤ hg ∧ hg ≤ 8) ∧ PoAt H o u ∧
  Q .non (upd H x (.ins cKind dx (kiF wd hg u)))
def spKindOf : Sp := fun vs H Q _ => ∃ (v : V) (k : Kd), vs = [v] ∧ KdAt H v k ∧ ∀ u H', Kp M0 H H' → KiAt H' u k → Q u H'
section
variable {P : Program} {w : World} {K : PySem.W.Frag} {mg : Str → Option Value} {base : Heap}
theorem scl_program_of : FnScope ["_law_handlers_here"] ["_law_handlers_here"] (defScope sl_program_of) := ⟨rfl, rfl, rfl, by decide +kernel, rfl, by decide +kernel, by decide +kernel⟩
theorem ok_l_program_of (T : Tx w K mg) : Cal P w K mg base "_law_program_of" 30 ["_law_handlers_here"] spProgOf := by
  obtain ⟨fd, F⟩ : ∃ fd, Fun K "_law_program_of" "_law_program_of" sl_program_of 790 fd := T.fn 72 _ rfl
  refine T.cal F 131 rfl (fun _ _ _ _ _ _ us hl => match us, hl with | [_], _ => rfl) ?_
  refine F.ok scl_program_of (fun vs H Q E h => ?_) (fun cdv A outer s H vs Q E hr h => ?_)
  · obtain ⟨v, o, rfl, _⟩ := h
    rfl
  obtain ⟨v, o, rfl, ho, k⟩ := h
  refine ⟨_, (pss_cons (ps_if (pt_cmpR op_isN (pv 0) pe_non (nomark _)) (pss_one (ps_ret pe_non)) pss_nil)
    (pss_one (ps_ret (pe_i (ok_m_Program_init T) (hr.mono (by decide)) (pa_cons (pe_callTy call_dict_of rfl (fr_dict T) (by decide +kernel) (pa_cons (pv 0) pa_nil)) pa_nil))))), ?_⟩
  cases o with
  | none =>
    cases (show v = .non from ho)
    exact ⟨_, rfl, rfl, _, rfl, iteT (k _ _ Kp.rfl rfl)⟩
  | some f =>
    obtain ⟨d, rfl, kvs, hd, hl, hk, hv⟩ := ho
    refine ⟨_, rfl, rfl, _, rfl, hit (fun c => nomatch of_decide_eq_true c) (fun _ => ?_)⟩
    refine ⟨_, rfl, d, kvs, rfl, hd, fun d2 nd2 => fun x dx nx ndx nexx => ?_⟩
    have kd : Kp M0 H (upd H d2 (.dK kvs)) := Kp.new nd2
    have kI : Kp M0 (upd H d2 (.dK kvs)) (upd (upd (upd H d2 (.dK kvs)) dx (.own x)) x (.ins cProgram dx [])) := Kp.priv (Kp.new ndx) nx
    refine ⟨x, d2, dx, f, rfl, upd_same, HsAt.kp kI ⟨kvs, upd_same, hl, hk, fun e => (hv e).kp kd⟩ id, fun H' d3 mc kp e1 e2 => ⟨rfl, ?_⟩⟩
    exact k _ _ (kd.trans (Kp.made nx ndx rfl kp)) ⟨x, rfl, dx, d3, mc, e1, e2⟩
theorem scm_Kind_init : FnScope ["self", "wide", "high", "solid", "pull", "program"] ["self", "wide", "high", "solid", "pull", "program"] (defScope sm_Kind_init) := ⟨rfl, rfl, rfl, by decide +kernel, rfl, by decide +kernel, by decide +kernel⟩
theorem ok_m_Kind_init (T : Tx w K mg) : CalI P w K mg base cKind "Kind" 3 ["self", "wide", "high", "solid", "pull", "program"] spKiInit := by
  obtain ⟨fd, F⟩ : ∃ fd, Fun K "__init__" "Kind.__init__" sm_Kind_init 326 fd := T.fn 18 _ rfl
  refine T.calI F (T.mkc (cKind, 326) (by simp [mkL])) 74 rfl (fun _ _ _ _ _ _ us hl => match us, hl with | [_, _, _, _, _, _], _ => rfl) ?_
  refine F.ok scm_Kind_init (fun vs H Q E h => ?_) (fun cdv A outer s H vs Q E hr h => ?_)
  · obtain ⟨x, dx, wd, hg, u, o, rfl, _⟩ := h
    rfl
  obtain ⟨x, dx, wd, hg, u, o, rfl, hx, ⟨w1, w8, g1, g8⟩, hp, k⟩ := h
  refine ⟨_, (pss_cons (ps_if (pt_not (pt_val (pe_k (ok_p_is_within T) (hr.mono (by decide)) (pa_cons (pv 1) (pa_cons pe_int (pa_cons (gc T 27 (.int (32)) rfl) pa_nil)))))) (pss_one ps_never) pss_nil)
    (pss_cons (ps_if (pt_not (pt_val (pe_k (ok_p_is_within T) (hr.mono (by decide)) (pa_cons (pv 2) (pa_cons pe_int (pa_cons (gc T 27 (.int (32)) rfl) pa_nil)))))) (pss_one ps_never) pss_nil)
    (pss_cons (ps_if (pt_not (pt_val (pe_callB call_isi rfl (fr_isinstance T) (by decide +kernel) (pa_cons (pv 3) (pa_cons (pe_bltn (v := .ty "bool") rfl (fr_bool T) (by decide +kernel) rfl) pa_nil))))) (pss_one ps_never) pss_nil)
    (pss_cons (ps_if (pt_not (pt_val (pe_k (ok_p_is_within T) (hr.mono (by decide)) (pa_cons (pv 4) (pa_cons (pe_un un_neg (gc T 71 (.int (4)) rfl)) (pa_cons (gc T 71 (.int (4)) rfl) pa_nil)))))) (pss_one ps_never) pss_nil)
    (C8.pss_cut (ps_if (PW.pt (pw_and (pt_cmpR op_notN (pv 5) pe_non (nomark _)) (pw_and1 (pt_not (pt_val (pe_callB call_isi rfl (fr_isinstance T) (by decide +kernel) (pa_cons (pv 5) (pa_cons (gc T 70 (.ref 308) rfl) pa_nil)))))))) (pss_one ps_never) pss_nil)
    (pss_cons (ps_fld (pv 0) (pv 1) rfl)
    (pss_cons (ps_fld (pv 0) (pv 2) rfl)
    (pss_cons (ps_fld (pv 0) (pv 3) rfl)
    (pss_cons (ps_fld (pv 0) (pv 4) rfl)
    (pss_one (ps_fld (pv 0) (pv 5) rfl))))))))))), ?_⟩
  refine ⟨_, rfl, wd, 1, 32, rfl, w1, by omega, _, rfl, iteF ?_⟩
  refine ⟨_, rfl, hg, 1, 32, rfl, g1, by omega, _, rfl, iteF ?_⟩
  refine ⟨_, rfl, .bl false, .ty "bool", .type "bool", .type "bool", true, rfl, .ty _, .base (.bl false), kit_ty (by decide +kernel), _, rfl, iteF ?_⟩
  refine ⟨_, rfl, 4, rfl, 0, -4, 4, rfl, by decide, by decide, _, rfl, iteF ?_⟩
  refine ⟨fun σ' H' => σ' = [some (.ref x), some (.int wd), some (.int hg), some (.bl false), some (.int 0), some u] ∧ H' = H, ?_, ?_⟩
  · cases o with
    | none =>
      cases (show u = .non from hp)
      exact ⟨_, rfl, rfl, _, rfl, iteF (iteF ⟨rfl, rfl⟩)⟩
    | some f =>
      obtain ⟨a, rfl, dxp, d, mc, e1, _⟩ := hp
      exact ⟨_, rfl, rfl, _, rfl, hit (fun _ => ⟨_, rfl, .ref a, .ref cProgram, .ref cProgram, .ref cProgram, true, rfl, .own _, T.tyO mem_cProgram e1, kit_self _, _, rfl, iteF ⟨rfl, rfl⟩⟩) (fun c => nomatch (by simpa using c : V.ref a = V.non))⟩
  rintro σ' H' ⟨rfl, rfl⟩
  have nK : ∀ f, (cKind, f) ∈ noL → NoAttr K cKind f := fun f h => T.no (cKind, f) h
  refine ⟨_, rfl, _, rfl, x, cKind, dx, _, rfl, hx, T.cl _ mem_cKind, nK "wide" (by simp [noL]), (by show 0 < 1000; decide), ?_⟩
  refine ⟨_, rfl, _, rfl, x, cKind, dx, _, rfl, upd_same, T.cl _ mem_cKind, nK "high" (by simp [noL]), (by show 1 < 1000; decide), ?_⟩
  refine ⟨_, rfl, _, rfl, x, cKind, dx, _, rfl, upd_same, T.cl _ mem_cKind, nK "solid" (by simp [noL]), (by show 2 < 1000; decide), ?_⟩
  refine ⟨_, rfl, _, rfl, x, cKind, dx, _, rfl, upd_same, T.cl _ mem_cKind, nK "pull" (by simp [noL]), (by show 3 < 1000; decide), ?_⟩
  refine ⟨_, rfl, _, rfl, x, cKind, dx, _, rfl, upd_same, T.cl _ mem_cKind, nK "program" (by simp [noL]), (by show 4 < 1000; decide), ?_⟩
  rw [upd_upd, upd_upd, upd_upd, upd_upd]
  exact k
theorem scl_kind_of : FnScope ["_law_kind"] ["_law_kind"] (defScope sl_kind_of) := ⟨rfl, rfl, rfl, by decide +kernel, rfl, by decide +kernel, by decide +kernel⟩
theorem ok_l_kind_of (T : Tx w K mg) : Cal P w K mg base "_law_kind_of" 31 ["_law_kind"] spKindOf := by
  obtain ⟨fd, F⟩ : ∃ fd, Fun K "_law_kind_of" "_law_kind_of" sl_kind_of 797 fd := T.fn 73 _ rfl
  refine T.cal F 132 rfl (fun _ _ _ _ _ _ us hl => match us, hl with | [_], _ => rfl) ?_
  refine F.ok scl_kind_of (fun vs H Q E h => ?_) (fun cdv A outer s H vs Q E hr h => ?_)
  · obtain ⟨v, kk, rfl, _⟩ := h
    rfl
  obtain ⟨v, kk, rfl, ⟨hb, t, hv, rfl, et, ho⟩, k⟩ := h
  refine ⟨_, (pss_one (ps_ret (pe_i (ok_m_Kind_init T) (hr.mono (by decide)) (pa_cons (pe_ix ix_tup (pv 0) pe_int (fun _ _ => rfl)) (pa_cons (pe_ix ix_tup (pv 0) pe_int (fun _ _ => rfl)) (pa_cons (pe_ix ix_tup (pv 0) pe_int (fun _ _ => rfl)) (pa_cons (pe_ix ix_tup (pv 0) pe_int (fun _ _ => rfl)) (pa_cons (pe_k (ok_l_program_of T) (hr.mono (by decide)) (pa_cons (pe_ix ix_tup (pv 0) pe_int (fun _ _ => rfl)) pa_nil)) pa_nil)))))))), ?_⟩
  have i0 : ∀ (i : Nat) (z : V), [V.int kk.wd, .int kk.hg, .bl false, .int 0, hv][i]? = some z → atI [V.int kk.wd, .int kk.hg, .bl false, .int 0, hv] (i : Int) = some z := fun i z e => atI_of rfl e
  refine ⟨_, rfl, t, _, 0, _, rfl, rfl, SqT.of et, i0 0 _ rfl, _, rfl, t, _, 1, _, rfl, rfl, SqT.of et, i0 1 _ rfl, _, rfl, t, _, 2, _, rfl, rfl, SqT.of et, i0 2 _ rfl, _, rfl, t, _, 3, _, rfl, rfl, SqT.of et, i0 3 _ rfl, _, rfl, t, _, 4, _, rfl, rfl, SqT.of et, i0 4 _ rfl, hv, kk.hs, rfl, ho, fun u H1 kp1 hp => fun x dx nx ndx nexx => ?_⟩
  have kI : Kp M0 H1 (upd (upd H1 dx (.own x)) x (.ins cKind dx [])) := Kp.priv (Kp.new ndx) nx
  refine ⟨x, dx, kk.wd, kk.hg, u, kk.hs, rfl, upd_same, hb, hp.kp0 kI, rfl, ?_⟩
  have kw : Kp (fun a => a = x) (upd (upd H1 dx (.own x)) x (.ins cKind dx [])) (upd (upd (upd H1 dx (.own x)) x (.ins cKind dx [])) x (.ins cKind dx (kiF kk.wd kk.hg u))) := Kp.rfl.set rfl (not_tup upd_same trivial)
  have kM := Kp.made nx ndx rfl kw
  exact k _ _ (kp1.trans kM) ⟨x, dx, u, rfl, upd_same, hp.kp0 kM⟩
end
end G
set_option Elab.async false
set_option linter.all false
set_option maxRecDepth 100000
set_option maxHeartbeats 4000000
namespace G
open PySem PySem.Spec PyProof.Rows L2
def spIsRow : Sp := fun vs H Q _ => ∃ (r : List Nat), vs = [rwV r] ∧ 1 ≤ r.length ∧ r.length ≤ 12 ∧ (∀ c ∈ r, Sg c) ∧ ∀ H', Kp M0 H H' → Q (.bl true) H'
def gdF (t : Addr) (rows : List (List Nat)) (wd : Nat) : List (Str × V) := [("rows", .ref t), ("wide", .int (8 * (wd : Int))), ("high", .int (8 * (rows.length : Int)))]
def GdAt (H : Hp) (a : Addr) (rows : List (List Nat)) (wd : Nat) : Prop := ∃ dx t, H a = some (.ins cGround dx (gdF t rows wd)) ∧ H t = some (.tup (rows.map rwV))
def spGdInit : Sp := fun vs H Q _ => ∃ (x dx t : Addr) (rows : List (List Nat)) (wd : Nat), vs = [.ref x, .ref t] ∧ H x = some (.ins cGround dx []) ∧ H t = some (.tup (rows.map rwV)) ∧ RowsOk rows wd ∧
  ∀ H', Kp (fun a => a = x) H H' → H' x = some (.ins cGround dx (gdF t rows wd)) → Q .non H'
theorem sg_in {c : Nat} (h : Sg c) : (!(Builtin.Str.occurrences ((("." : Str) ++ ("#" : Str)) ++ ("0123456789" : Str)) (⟨#[c]⟩ : Str) 0 ((("." : Str) ++ ("#" : Str)) ++ ("0123456789" : Str)).length 1).isEmpty) = true := by
  have h2 : c = 35 ∨ c = 46 ∨ c = 48 ∨ c = 49 ∨ c = 50 ∨ c = 51 ∨ c = 52 ∨ c = 53 ∨ c = 54 ∨ c = 55 ∨ c = 56 ∨ c = 57 := by
    unfold Sg at h
    omega
  rcases h2 with q | q | q | q | q | q | q | q | q | q | q | q <;> subst q <;> decide +kernel
section
variable {P : Program} {w : World} {K : PySem.W.Frag} {mg : Str → Option Value} {base : Heap}
theorem scp_is_row : FnScope ["thing", "sign"] ["thing"] (defScope sp_is_row) := ⟨rfl, rfl, rfl, by decide +kernel, rfl, by decide +kernel, by decide +kernel⟩
theorem ok_p_is_row (T : Tx w K mg) : Cal P w K mg base "is_row" 1 ["thing"] spIsRow := by
  obtain ⟨fd, F⟩ : ∃ fd, Fun K "is_row" "is_row" sp_is_row 174 fd := T.fn 6 _ rfl
  refine T.cal F 31 rfl (fun _ _ _ _ _ _ us hl => match us, hl with | [_], _ => rfl) ?_
  refine F.ok scp_is_row (fun vs H Q E h => ?_) (fun cdv A outer s H vs Q E hr h => ?_)
  · obtain ⟨r, rfl, _⟩ := h
    rfl
  obtain ⟨r, rfl, r1, r2, hs, k⟩ := h
  refine ⟨_, (pss_cons (ps_if (PW.pt (pw_or (pt_not (pt_val (pe_callB call_isi rfl (fr_isinstance T) (by decide +kernel) (pa_cons (pv 0) (pa_cons (pe_bltn (v := .ty "str") rfl (fr_str T) (by decide +kernel) rfl) pa_nil))))) (pw_or1 (pt_not (pt_chain op_le op_le pe_int (pe_callB call_len rfl (fr_len T) (by decide +kernel) (pa_cons (pv 0) pa_nil)) (gc T 26 (.int (40)) rfl)))))) (pss_one (ps_ret pe_bl)) pss_nil)
    (pss_one (ps_ret (pe_callB (cr_all rfl) rfl (fr_all T) (by decide +kernel) (pa_cons (pe_lc (own := [("sign", 1)]) (g := gName 1) (by rfl) scp_is_row.nd (pi_str (pv 0)) (blkOk_by (own := [("sign", 1)]) (N := ["thing", "sign"]) (sc := defScope sp_is_row) (by decide +kernel)) (fun _ _ _ _ _ => pg_name (i := 1) scp_is_row.nd rfl (Or.inl rfl)) (fun _ _ _ _ _ => pts_nil) (fun _ _ _ _ _ => (pe_cmpR op_in_str (pv 1) (pe_op op_add_str (pe_op op_add_str (gc T 28 (.str ".") rfl) (gc T 29 (.str "#") rfl)) (gc T 30 (.str "0123456789") rfl)) (by rfl)))) pa_nil))))), ?_⟩
  refine ⟨_, rfl, rwV r, .ty "str", .type "str", .type "str", true, rfl, .ty _, .base (.str _), kit_ty (by decide +kernel), _, rfl, iteF ?_⟩
  refine ⟨_, rfl, rwV r, r.length, rfl, ⟨Nat.le_trans (show r.length ≤ 12 from r2) (by decide), rfl⟩, _, _, rfl, rfl, _, rfl, hit (fun _ => ?_) (fun c => absurd (of_decide_eq_false c) (by omega))⟩
  refine ⟨_, _, rfl, rfl, _, rfl, hit (fun c => absurd c (by rw [decide_eq_true (by omega)]; decide)) (fun _ => ?_)⟩
  refine ⟨_, rfl, _, rfl, fun D nD => ?_⟩
  have wk : Walk (Its ⟨r.toArray⟩) r.length (fun _ => True) (fun i H v H' => H' = H ∧ ∃ c, r[i]? = some c ∧ v = .str ⟨#[c]⟩) := by
    have q := walk_str (z := ⟨r.toArray⟩)
    simpa using q
  refine lc_it wk (fun j H' => Kp M0 H H' ∧ H' D = some (.lst ((List.replicate j true).map V.bl))) ?_ (fun _ _ _ _ => trivial) ?_ ?_
  · exact ⟨Kp.new nD, upd_same⟩
  · rintro j x Hj H' hj ⟨kpj, e2⟩ ⟨rfl, c, ec, rfl⟩
    refine ⟨rfl, _, rfl, _, _, rfl, rfl, (by decide +kernel), _, _, rfl, rfl, (by decide +kernel), _, _, rfl, rfl, ?_⟩
    refine ⟨_, e2, Nat.lt_of_le_of_lt (show _ ≤ 100 by rw [List.length_map, List.length_replicate]; omega) (by decide), kpj.priv nD, ?_⟩
    rw [upd_same, List.replicate_succ', List.map_append, sg_in (hs c (List.mem_of_getElem? ec))]
    rfl
  rintro Hj ⟨kpj, e2⟩
  refine ⟨D, _, rfl, SqL.of e2, ?_⟩
  rw [reps_true]
  exact k _ kpj
theorem scm_Ground_init : FnScope ["self", "rows", "index", "row"] ["self", "rows"] (defScope sm_Ground_init) := ⟨rfl, rfl, rfl, by decide +kernel, rfl, by decide +kernel, by decide +kernel⟩
theorem ok_m_Ground_init (T : Tx w K mg) : CalI P w K mg base cGround "Ground" 3 ["self", "rows"] spGdInit := by
  obtain ⟨fd, F⟩ : ∃ fd, Fun K "__init__" "Ground.__init__" sm_Ground_init 188 fd := T.fn 7 _ rfl
  refine T.calI F (T.mkc (cGround, 188) (by simp [mkL])) 32 rfl (fun _ _ _ _ _ _ us hl => match us, hl with | [_, _], _ => rfl) ?_
  refine F.ok scm_Ground_init (fun vs H Q E h => ?_) (fun cdv A outer s H vs Q E hr h => ?_)
  · obtain ⟨x, dx, t, rows, wd, rfl, _⟩ := h
    rfl
  obtain ⟨x, dx, t, rows, wd, rfl, hx, et, ok, k⟩ := h
  refine ⟨_, (pss_cons (ps_if (pt_not (pt_val (pe_k (ok_p_is_sized T) (hr.mono (by decide)) (pa_cons (pv 1) (pa_cons pe_int (pa_cons (gc T 25 (.int (30)) rfl) pa_nil)))))) (pss_one ps_never) pss_nil)
    (pss_cons (ps_for PassesOwn.never rfl (pi_enumT rfl (fr_enumerate T) (pa_cons (pv 1) pa_nil)) (pg_tup rfl (pgs_cons (pg_name (i := 2) scm_Ground_init.nd rfl (Or.inl rfl)) (pgs_cons (pg_name (i := 3) scm_Ground_init.nd rfl (Or.inl rfl)) pgs_nil)))
      (pss_one (ps_if (PW.pt (pw_or (pt_not (pt_val (pe_k (ok_p_is_row T) (hr.mono (by decide)) (pa_cons (pv 3) pa_nil)))) (pw_or1 (pt_cmpR op_ne (pe_callB call_len rfl (fr_len T) (by decide +kernel) (pa_cons (pv 3) pa_nil)) (pe_callB call_len rfl (fr_len T) (by decide +kernel) (pa_cons (pe_ix ix_tup (pv 1) pe_int (fun _ _ => rfl)) pa_nil)) (nomark _))))) (pss_one ps_never) pss_nil)))
    (pss_cons (ps_fld (pv 0) (pv 1) rfl)
    (pss_cons (ps_fld (pv 0) (pe_op op_mul (gc T 24 (.int (8)) rfl) (pe_callB call_len rfl (fr_len T) (by decide +kernel) (pa_cons (pe_ix ix_tup (pv 1) pe_int (fun _ _ => rfl)) pa_nil))) rfl)
    (pss_one (ps_fld (pv 0) (pe_op op_mul (gc T 24 (.int (8)) rfl) (pe_callB call_len_seq rfl (fr_len T) (by decide +kernel) (pa_cons (pv 1) pa_nil))) rfl)))))), ?_⟩
  have n1 := ok.n1
  have n2 := ok.n2
  have w1 := ok.w1
  have w2 := ok.w2
  have lr : (rows.map rwV).length = rows.length := List.length_map ..
  obtain ⟨r0, er0⟩ : ∃ r, rows[0]? = some r := ⟨rows[0], List.getElem?_eq_getElem (by omega)⟩
  have hr0 := ok.sg r0 (List.mem_of_getElem? er0)
  have g0 : atI (rows.map rwV) 0 = some (rwV r0) := atI_of (j := 0) rfl (by rw [List.getElem?_map, er0]; rfl)
  have l0 : LenV K (rwV r0) H wd := ⟨Nat.le_trans (show r0.length ≤ 12 by rw [hr0.1]; exact w2) (by decide), hr0.1.symm⟩
  refine ⟨_, rfl, t, _, 1, 30, rfl, SqT.of et, by omega, by omega, _, rfl, iteF ?_⟩
  refine ⟨_, rfl, t, _, rfl, SqT.of et, ?_⟩
  refine for_enumT (xs := rows.map rwV) (fun i σ' H' => ∃ k1 k2, σ' = [some (.ref x), some (.ref t), k1, k2] ∧ Kp M0 H H') ⟨none, none, rfl, Kp.rfl⟩ (fun i σ' H' _ ⟨_, _, _, kp⟩ => SqT.of (kp.tup _ _ et)) ?_ ?_
  · rintro i y σ' H2 p hi ⟨k1, k2, rfl, kp2⟩ np
    obtain ⟨r, er, rfl⟩ : ∃ r, rows[i]? = some r ∧ rwV r = y := by
      rw [List.getElem?_map] at hi
      cases q : rows[i]? with
      | none => rw [q] at hi; cases hi
      | some r => rw [q] at hi; exact ⟨r, rfl, Option.some.inj hi⟩
    have hr := ok.sg r (List.mem_of_getElem? er)
    have kpp : Kp M0 H2 (upd H2 p (.tup [.int (i : Nat), rwV r])) := Kp.new np
    refine ⟨p, _, rfl, SqT.of upd_same, rfl, _, _, rfl, _, _, rfl, rfl, ?_⟩
    refine ⟨_, rfl, r, rfl, by omega, by omega, hr.2, fun H3 kp3 => ⟨_, rfl, iteF ?_⟩⟩
    have k3 := kp2.trans (kpp.trans kp3)
    refine ⟨_, rfl, rwV r, wd, rfl, ⟨Nat.le_trans (show r.length ≤ 12 by rw [hr.1]; exact w2) (by decide), hr.1.symm⟩, _, rfl, t, _, 0, _, rfl, rfl, SqT.of (k3.tup _ _ et), g0, rwV r0, wd, rfl, l0, rfl, _, rfl, ?_⟩
    rw [decide_eq_true rfl]
    exact iteF ⟨_, _, rfl, k3⟩
  · rintro σ' H2 ⟨k1, k2, rfl, kp2⟩
    have hx2 := kp2.keep _ _ hx id
    have et2 := kp2.tup _ _ et
    have xt : x ≠ t := fun z => by rw [← z, hx] at et; cases et
    refine ⟨_, rfl, _, rfl, x, cGround, dx, _, rfl, hx2, T.cl _ mem_cGround, T.no (cGround, "rows") (by simp [noL]), (by show 0 < 1000; decide), ?_⟩
    have k1' : Kp (fun a => a = x) H2 (upd H2 x (.ins cGround dx [("rows", .ref t)])) := Kp.rfl.set rfl (not_tup hx2 trivial)
    refine ⟨_, rfl, t, _, 0, _, rfl, rfl, SqT.of (k1'.tup _ _ et2), g0, rwV r0, wd, rfl, l0, _, _, rfl, rfl, .inl ⟨by decide, by decide⟩, _, rfl, x, cGround, dx, _, rfl, upd_same, T.cl _ mem_cGround, T.no (cGround, "wide") (by simp [noL]), (by show 1 < 1000; decide), ?_⟩
    have k2' : Kp (fun a => a = x) (upd H2 x (.ins cGround dx [("rows", .ref t)])) (upd (upd H2 x (.ins cGround dx [("rows", .ref t)])) x (.ins cGround dx [("rows", .ref t), ("wide", .int (8 * (wd : Int)))])) := Kp.rfl.set rfl (not_tup upd_same trivial)
    refine ⟨_, rfl, t, _, rfl, .inr (SqT.of (k2'.tup _ _ (k1'.tup _ _ et2))), _, _, rfl, rfl, .inl ⟨by decide, by decide⟩, _, rfl, x, cGround, dx, _, rfl, upd_same, T.cl _ mem_cGround, T.no (cGround, "high") (by simp [noL]), (by show 2 < 1000; decide), ?_⟩
    have k3' : Kp (fun a => a = x) (upd (upd H2 x (.ins cGround dx [("rows", .ref t)])) x (.ins cGround dx [("rows", .ref t), ("wide", .int (8 * (wd : Int)))])) (upd (upd (upd H2 x (.ins cGround dx [("rows", .ref t)])) x (.ins cGround dx [("rows", .ref t), ("wide", .int (8 * (wd : Int)))])) x (.ins cGround dx (gdF t rows wd))) := Kp.rfl.set rfl (not_tup upd_same trivial)
    show Q .non (upd (upd (upd H2 x (.ins cGround dx [("rows", .ref t)])) x (.ins cGround dx [("rows", .ref t), ("wide", .int (8 * (wd : Int)))])) x (.ins cGround dx [("rows", .ref t), ("wide", .int (8 * (wd : Int))), ("high", .int (8 * ((rows.map rwV).length : Int)))]))
    rw [lr]
    exact k _ ((kp2.weak fun _ z => z.elim).trans (k1'.trans (k2'.trans k3'))) upd_same
end
end G
set_option Elab.async false
set_option linter.all false
set_option maxRecDepth 100000
set_option maxHeartbeats 4000000
namespace G
open PySem PySem.Spec PyProof.Rows L2
theorem GdAt.kp0 {H H' : Hp} (k : Kp M0 H H') {a : Addr} {rows : List (List Nat)} {wd : Nat} (h : GdAt H a rows wd) : GdAt H' a rows wd := by
  obtain ⟨dx, t, h1, h2⟩ := h
  exact ⟨dx, t, k.keep _ _ h1 id, k.tup _ _ h2⟩
def gaF (pl : Int) (g kt bt : Addr) : List (Str × V) := [("players", .int pl), ("ground", .ref g), ("kinds", .ref kt), ("births", .ref bt)]
def GaAt (H : Hp) (a : Addr) (pl : Int) (rows : List (List Nat)) (wd : Nat) (ks : List Kd) : Prop := ∃ dx g kt bt vs, H a = some (.ins cGame dx (gaF pl g kt bt)) ∧ GdAt H g rows wd ∧ H kt = some (.tup vs) ∧ All2 (KiAt H) vs ks
theorem GaAt.kp0 {H H' : Hp} (k : Kp M0 H H') {a : Addr} {pl : Int} {rows : List (List Nat)} {wd : Nat} {ks : List Kd} (h : GaAt H a pl rows wd ks) : GaAt H' a pl rows wd ks := by
  obtain ⟨dx, g, kt, bt, vs, h1, h2, h3, h4⟩ := h
  exact ⟨dx, g, kt, bt, vs, k.keep _ _ h1 id, h2.kp0 k, k.tup _ _ h3, h4.mono fun _ _ q => q.kp0 k⟩
def spGaInit : Sp := fun vs H Q _ => ∃ (x dx g kt bt : Addr) (pl : Int) (rows : List (List Nat)) (wd : Nat) (kvs : List V) (ks : List Kd), vs = [.ref x, .int pl, .ref g, .ref kt, .ref bt] ∧ H x = some (.ins cGame dx []) ∧ 1 ≤ pl ∧ pl ≤ 4 ∧ GdAt H g rows wd ∧ H kt = some (.tup kvs) ∧ All2 (KiAt H) kvs ks ∧ 1 ≤ ks.length ∧ ks.length ≤ 8 ∧ H bt = some (.tup []) ∧
  ∀ H', Kp (fun a => a = x) H H' → H' x = some (.ins cGame dx (gaF pl g kt bt)) → Q .non H'
def spGameOf : Sp := fun vs H Q _ => ∃ (v : V) (a b : Addr) (pl : Int) (rows : List (List Nat)) (wd : Nat) (ks : List Kd), vs = [.int pl, v, .ref a, .ref b] ∧ RowsAt H v rows ∧ RowsOk rows wd ∧ KsAt H a ks ∧ H b = some (.lst []) ∧ 1 ≤ pl ∧ pl ≤ 4 ∧
  ∀ u H', Kp M0 H H' → GaAt H' u pl rows wd ks → Q (.ref u) H'
section
variable {P : Program} {w : World} {K : PySem.W.Frag} {mg : Str → Option Value} {base : Heap}
theorem scm_Game_init : FnScope ["self", "players", "ground", "kinds", "births", "kind", "placed", "index", "birth"] ["self", "players", "ground", "kinds", "births"] (defScope sm_Game_init) := ⟨rfl, rfl, rfl, by decide +kernel, rfl, by decide +kernel, by decide +kernel⟩
theorem ok_m_Game_init (T : Tx w K mg) : CalI P w K mg base cGame "Game" 4 ["self", "players", "ground", "kinds", "births"] spGaInit := by
  obtain ⟨fd, F⟩ : ∃ fd, Fun K "__init__" "Game.__init__" sm_Game_init 373 fd := T.fn 19 _ rfl
  refine T.calI F (T.mkc (cGame, 373) (by simp [mkL])) 78 rfl (fun _ _ _ _ _ _ us hl => match us, hl with | [_, _, _, _, _], _ => rfl) ?_
  refine F.ok scm_Game_init (fun vs H Q E h => ?_) (fun cdv A outer s H vs Q E hr h => ?_)
  · obtain ⟨x, dx, g, kt, bt, pl, rows, wd, kvs, ks, rfl, _⟩ := h
    rfl
  obtain ⟨x, dx, g, kt, bt, pl, rows, wd, kvs, ks, rfl, hx, p1, p4, hg, hk, hK, n1, n8, hb, k⟩ := h
  refine ⟨_, (pss_cons (ps_if (pt_not (pt_val (pe_k (ok_p_is_within T) (hr.mono (by decide)) (pa_cons (pv 1) (pa_cons pe_int (pa_cons (gc T 72 (.int (4)) rfl) pa_nil)))))) (pss_one ps_never) pss_nil)
    (pss_cons (ps_if (pt_not (pt_val (pe_callB call_isi rfl (fr_isinstance T) (by decide +kernel) (pa_cons (pv 2) (pa_cons (gc T 32 (.ref 198) rfl) pa_nil))))) (pss_one ps_never) pss_nil)
    (pss_cons (ps_if (PW.pt (pw_or (pt_not (pt_val (pe_k (ok_p_is_sized T) (hr.mono (by decide)) (pa_cons (pv 3) (pa_cons pe_int (pa_cons (gc T 41 (.int (8)) rfl) pa_nil)))))) (pw_or1 (pt_not (pt_val (pe_callB (cr_all rfl) rfl (fr_all T) (by decide +kernel) (pa_cons (pe_lc (own := [("kind", 5)]) (g := gName 5) (by rfl) scm_Game_init.nd (pi_tup (pv 3)) (blkOk_by (own := [("kind", 5)]) (N := ["self", "players", "ground", "kinds", "births", "kind", "placed", "index", "birth"]) (sc := defScope sm_Game_init) (by decide +kernel)) (fun _ _ _ _ _ => pg_name (i := 5) scm_Game_init.nd rfl (Or.inl rfl)) (fun _ _ _ _ _ => pts_nil) (fun _ _ _ _ _ => (pe_callB ((show CallR _ _ (rIsi K) from call_isi)) rfl (fr_isinstance T) (by decide +kernel) (pa_cons (pv 5) (pa_cons (gc T 74 (.ref 336) rfl) pa_nil))))) pa_nil))))))) (pss_one ps_never) pss_nil)
    (pss_cons (ps_if (pt_not (pt_val (pe_k (ok_p_is_sized T) (hr.mono (by decide)) (pa_cons (pv 4) (pa_cons pe_int (pa_cons (gc T 73 (.int (16)) rfl) pa_nil)))))) (pss_one ps_never) pss_nil)
    (pss_cons (ps_set (i := 6) scm_Game_init.nd rfl (Or.inl rfl) (pe_lst pa_nil))
    (pss_cons (ps_for PassesOwn.never rfl (pi_enumT rfl (fr_enumerate T) (pa_cons (pv 4) pa_nil)) (pg_tup rfl (pgs_cons (pg_name (i := 7) scm_Game_init.nd rfl (Or.inl rfl)) (pgs_cons (pg_name (i := 8) scm_Game_init.nd rfl (Or.inl rfl)) pgs_nil)))
      (pss_cons ps_never
    (pss_cons ps_never
    (pss_one ps_never))))
    (pss_cons (ps_fld (pv 0) (pv 1) rfl)
    (pss_cons (ps_fld (pv 0) (pv 2) rfl)
    (pss_cons (ps_fld (pv 0) (pv 3) rfl)
    (pss_one (ps_fld (pv 0) (pv 4) rfl))))))))))), ?_⟩
  have hl := hK.len
  obtain ⟨dxg, tg, eg, _⟩ := hg
  refine ⟨_, rfl, pl, 1, 4, rfl, p1, p4, _, rfl, iteF ?_⟩
  refine ⟨_, rfl, .ref g, .ref cGround, .ref cGround, .ref cGround, true, rfl, .own _, T.tyO mem_cGround eg, kit_self _, _, rfl, iteF ?_⟩
  refine ⟨_, rfl, kt, _, 1, 8, rfl, SqT.of hk, by omega, by omega, _, rfl, iteF ?_⟩
  refine ⟨_, rfl, kt, rfl, ⟨_, SqT.of hk⟩, fun D nD => ?_⟩
  refine lc_tup (xs := kvs) (fun j H' => Kp M0 H H' ∧ H' D = some (.lst ((List.replicate j true).map V.bl))) ⟨Kp.new nD, upd_same⟩ (fun i H' _ ⟨kp, _⟩ => SqT.of (kp.tup _ _ hk)) ?_ ?_
  · rintro j y Hj hj ⟨kpj, e2⟩
    obtain ⟨kd, _, ⟨a, dxk, u, rfl, ek, _⟩⟩ := hK.getL hj
    have jl := (List.getElem?_eq_some_iff.mp hj).1
    refine ⟨rfl, _, rfl, .ref a, .ref cKind, .ref cKind, .ref cKind, true, rfl, .own _, T.tyO mem_cKind (kpj.keep _ _ ek id), kit_self _, _, e2, Nat.lt_of_le_of_lt (show _ ≤ 100 by rw [List.length_map, List.length_replicate]; omega) (by decide), kpj.priv nD, ?_⟩
    rw [upd_same, List.replicate_succ', List.map_append]
    rfl
  rintro H1 ⟨kp1, e2⟩
  refine ⟨D, _, rfl, SqL.of e2, ?_⟩
  rw [reps_true]
  refine ⟨_, rfl, iteF ?_⟩
  refine ⟨_, rfl, bt, [], 0, 16, rfl, SqT.of (kp1.tup _ _ hb), by decide, by decide, _, rfl, iteF ?_⟩
  refine ⟨(by show 0 ≤ sizeLine; decide), fun pc nc => ?_⟩
  have kpc : Kp M0 H1 (upd H1 pc (.lst [])) := Kp.new nc
  have hb2 := kpc.tup _ _ (kp1.tup _ _ hb)
  refine ⟨_, rfl, bt, [], rfl, SqT.of hb2, ?_⟩
  refine for_enumT (xs := []) (fun i σ' H' => σ' = [some (.ref x), some (.int pl), some (.ref g), some (.ref kt), some (.ref bt), none, some (.ref pc), none, none] ∧ Kp M0 H H') ⟨rfl, kp1.trans kpc⟩ (fun i σ' H' _ ⟨_, kp⟩ => SqT.of (kp.tup _ _ hb)) (fun i y σ' H2 p hi => by simp at hi) ?_
  rintro σ' H2 ⟨rfl, kp2⟩
  have hx2 := kp2.keep _ _ hx id
  have nK : ∀ f, (cGame, f) ∈ noL → NoAttr K cGame f := fun f h => T.no (cGame, f) h
  have kq : ∀ {H3 : Hp} {fs fs2 : List (Str × V)}, H3 x = some (.ins cGame dx fs) → Kp (fun a => a = x) H3 (upd H3 x (.ins cGame dx fs2)) := fun e => Kp.rfl.set rfl (not_tup e trivial)
  refine ⟨_, rfl, _, rfl, x, cGame, dx, _, rfl, hx2, T.cl _ mem_cGame, nK "players" (by simp [noL]), (by show 0 < 1000; decide), ?_⟩
  refine ⟨_, rfl, _, rfl, x, cGame, dx, _, rfl, upd_same, T.cl _ mem_cGame, nK "ground" (by simp [noL]), (by show 1 < 1000; decide), ?_⟩
  refine ⟨_, rfl, _, rfl, x, cGame, dx, _, rfl, upd_same, T.cl _ mem_cGame, nK "kinds" (by simp [noL]), (by show 2 < 1000; decide), ?_⟩
  refine ⟨_, rfl, _, rfl, x, cGame, dx, _, rfl, upd_same, T.cl _ mem_cGame, nK "births" (by simp [noL]), (by show 3 < 1000; decide), ?_⟩
  rw [upd_upd, upd_upd, upd_upd]
  exact k _ ((kp2.weak fun _ z => z.elim).trans (kq hx2)) upd_same
theorem scl_game_of : FnScope ["_law_players", "_law_rows_here", "_law_kinds", "_law_births", "_law_kind"] ["_law_players", "_law_rows_here", "_law_kinds", "_law_births"] (defScope sl_game_of) := ⟨rfl, rfl, rfl, by decide +kernel, rfl, by decide +kernel, by decide +kernel⟩
theorem ok_l_game_of (T : Tx w K mg) : Cal P w K mg base "_law_game_of" 32 ["_law_players", "_law_rows_here", "_law_kinds", "_law_births"] spGameOf := by
  obtain ⟨fd, F⟩ : ∃ fd, Fun K "_law_game_of" "_law_game_of" sl_game_of 802 fd := T.fn 74 _ rfl
  refine T.cal F 133 rfl (fun _ _ _ _ _ _ us hl => match us, hl with | [_, _, _, _], _ => rfl) ?_
  refine F.ok scl_game_of (fun vs H Q E h => ?_) (fun cdv A outer s H vs Q E hr h => ?_)
  · obtain ⟨v, a, b, pl, rows, wd, ks, rfl, _⟩ := h
    rfl
  obtain ⟨v, a, b, pl, rows, wd, ks, rfl, ⟨t, rfl, et⟩, ok, ⟨vs, ea, hA, n1, n8⟩, eb, p1, p4, k⟩ := h
  refine ⟨_, (pss_one (ps_ret (pe_i (ok_m_Game_init T) (hr.mono (by decide)) (pa_cons (pv 0) (pa_cons (pe_i (ok_m_Ground_init T) (hr.mono (by decide)) (pa_cons (pv 1) pa_nil)) (pa_cons (pe_callTy call_tuple_of rfl (fr_tuple T) (by decide +kernel) (pa_cons (pe_lc (own := [("_law_kind", 4)]) (g := gName 4) (by rfl) scl_game_of.nd (pi_list (pv 2)) (blkOk_by (own := [("_law_kind", 4)]) (N := ["_law_players", "_law_rows_here", "_law_kinds", "_law_births", "_law_kind"]) (sc := defScope sl_game_of) (by decide +kernel)) (fun _ _ _ _ _ => pg_name (i := 4) scl_game_of.nd rfl (Or.inl rfl)) (fun _ _ _ _ _ => pts_nil) (fun _ _ _ _ _ => (pe_k (ok_l_kind_of T) (hr.mono (by decide)) (pa_cons (pv 4) pa_nil)))) pa_nil)) (pa_cons (pe_callTy call_tuple_of rfl (fr_tuple T) (by decide +kernel) (pa_cons (pv 3) pa_nil)) pa_nil))))))), ?_⟩
  refine ⟨_, rfl, _, rfl, fun x dx nx ndx nexx => ?_⟩
  have kI : Kp M0 H (upd (upd H dx (.own x)) x (.ins cGround dx [])) := Kp.priv (Kp.new ndx) nx
  refine ⟨x, dx, t, rows, wd, rfl, upd_same, kI.tup _ _ et, ok, fun H1 kp1 e1 => ⟨rfl, ?_⟩⟩
  have kM := Kp.made nx ndx rfl kp1
  have hG : GdAt H1 x rows wd := ⟨dx, t, e1, kM.tup _ _ et⟩
  have ea1 := kM.keep _ _ ea id
  refine ⟨_, rfl, a, rfl, ⟨_, SqL.of ea1⟩, fun D nD => ?_⟩
  have aD : a ≠ D := ne_of_none ea1 nD
  have hl := hA.len
  refine lc_list (xs := vs) (fun j H' => Kp M0 H1 H' ∧ H' a = some (.lst vs) ∧ ∃ us, H' D = some (.lst us) ∧ All2 (KiAt H') us (ks.take j) ∧ us.length ≤ j) ?_ (fun i H' _ ⟨_, e, _⟩ => SqL.of e) ?_ ?_
  · exact ⟨Kp.new nD, by rw [upd_ne aD]; exact ea1, [], upd_same, trivial, Nat.le_refl _⟩
  · rintro j y Hj hj ⟨kpj, e1', us, eD, hu, hul⟩
    obtain ⟨kd, ekd, hkd⟩ := hA.getL hj
    have jl := (List.getElem?_eq_some_iff.mp hj).1
    refine ⟨rfl, _, rfl, y, kd, rfl, (hkd.kp kM noD0).kp kpj noD0, fun u Hk kpk hki => ?_⟩
    have eDk := kpk.keep _ _ eD id
    have kw : Kp (fun a => a = D) Hk (upd Hk D (.lst (us ++ [u]))) := Kp.rfl.set rfl (not_tup eDk trivial)
    refine ⟨us, eDk, Nat.lt_of_le_of_lt (show us.length ≤ 100 by omega) (by decide), (kpj.trans kpk).priv nD, by rw [upd_ne aD]; exact kpk.keep _ _ e1' id, us ++ [u], upd_same, ?_, by rw [List.length_append]; show us.length + 1 ≤ j + 1; omega⟩
    rw [List.take_add_one, ekd]
    have kk : ∀ {v : V} {z : Kd}, KiAt Hk v z → KiAt (upd Hk D (.lst (us ++ [u]))) v z := fun {v z} q => by
      obtain ⟨aa, dd, uu, h1, h2, h3⟩ := q
      refine ⟨aa, dd, uu, h1, kw.keep _ _ h2 (fun z => by rw [z, eDk] at h2; cases h2), ?_⟩
      cases z' : z.hs with
      | none => rw [z'] at h3; exact h3
      | some f =>
        rw [z'] at h3
        obtain ⟨pa, hp1, hp2⟩ := h3
        refine ⟨pa, hp1, hp2.kp kw (fun q => ?_) (fun b kvs e z2 => by rw [z2, eDk] at e; cases e)⟩
        obtain ⟨_, _, _, hp3, _⟩ := hp2
        rw [q, eDk] at hp3
        cases hp3
    exact All2.snoc (hu.mono fun v z q => kk (q.kp0 kpk)) (kk hki)
  rintro H2 ⟨kp2, ea2, us, eD, hu, hul⟩
  rw [show vs.length = ks.length from hl, List.take_length] at hu
  refine ⟨D, _, rfl, .inl ⟨SqL.of eD, fun kt nk => ?_⟩⟩
  have kk : Kp M0 H2 (upd H2 kt (.tup us)) := Kp.new nk
  have eb2 := kk.keep _ _ (kp2.keep _ _ (kM.keep _ _ eb id) id) id
  refine ⟨_, rfl, b, _, rfl, .inl ⟨SqL.of eb2, fun bt nb => ?_⟩⟩
  have kb : Kp M0 (upd H2 kt (.tup us)) (upd (upd H2 kt (.tup us)) bt (.tup [])) := Kp.new nb
  refine fun x2 dx2 nx2 ndx2 nexx2 => ?_
  have kI2 : Kp M0 (upd (upd H2 kt (.tup us)) bt (.tup [])) (upd (upd (upd (upd H2 kt (.tup us)) bt (.tup [])) dx2 (.own x2)) x2 (.ins cGame dx2 [])) := Kp.priv (Kp.new ndx2) nx2
  have k2 := kk.trans (kb.trans kI2)
  refine ⟨x2, dx2, x, kt, bt, pl, rows, wd, us, ks, rfl, upd_same, p1, p4, (hG.kp0 kp2).kp0 k2, (kb.trans kI2).tup _ _ upd_same, hu.mono fun v z q => q.kp0 k2, n1, n8, kI2.tup _ _ upd_same, fun H' kp' e' => ⟨rfl, ?_⟩⟩
  have kM2 := Kp.made nx2 ndx2 rfl kp'
  have kz := kk.trans (kb.trans kM2)
  exact k _ _ (kM.trans (kp2.trans kz)) ⟨dx2, x, kt, bt, us, e', (hG.kp0 kp2).kp0 kz, (kb.trans kM2).tup _ _ upd_same, hu.mono fun v z q => q.kp0 kz⟩
end
end G
set_option Elab.async false
set_option linter.all false
set_option maxRecDepth 100000
set_option maxHeartbeats 4000000
/-! ### what a handler does, without any program -/
namespace G
open PySem PySem.Spec PyProof.Rows L2
def wrapF (n : Int) : Int := (n + 2147483648) % 4294967296 - 2147483648
def nearF (n : Int) : Int := if n > 16 then 16 else if n < -16 then -16 else n
def lateF (n : Int) : Int := n * 48271 % 2147483647
structure S where
  seed : Int
  sh : List Int
  bs : List Bod
  said : List Int
  asked : List (List Int)
  gone : Bool
  fuel : Nat
structure Cfg where
  tick : Int
  ix : Nat
  other : Int
  side : Int
  inp : List Int
  rows : List (List Nat)
  wd : Nat
  nk : Int
  pl : Int
  num : Int
  lv0 : List Int
def b0 : Bod := ⟨0, 0, 0, 0, 0, 0, 0, []⟩
def bodF (c : Cfg) (s : S) : Bod := s.bs.getD c.ix b0
def butF (c : Cfg) (s : S) : Int := if (bodF c s).owner < 0 then 0 else c.inp.getD (bodF c s).owner.toNat 0
def ldF (c : Cfg) (s : S) : Nm → Int
  | .x => (bodF c s).x
  | .y => (bodF c s).y
  | .dx => (bodF c s).dx
  | .dy => (bodF c s).dy
  | .tick => c.tick
  | .id => (bodF c s).num
  | .owner => (bodF c s).owner
  | .buttons => butF c s
  | .other => c.other
  | .side => c.side
  | .cell i => (bodF c s).cells.getD i 0
  | .sh i => s.sh.getD i 0
def signF (rows : List (List Nat)) (wd : Nat) (x y : Int) : Nat :=
  if x < 0 ∨ y < 0 ∨ x ≥ 8 * (wd : Int) ∨ y ≥ 8 * (rows.length : Int) then 35 else (rows.getD (y / 8).toNat []).getD (x / 8).toNat 0
def markF (rows : List (List Nat)) (wd : Nat) (x y : Int) : Int := if signF rows wd x y = 35 then 11 else if signF rows wd x y = 46 then 10 else (signF rows wd x y : Int) - 48
def toldF (s : S) (w : W1) (n : Int) : Int := match s.bs.find? (fun b => decide (b.num = n)) with
  | none => if w = .kind then -1 else 0
  | some b => if w = .kind then b.kind else if w = .left then b.x else b.y
def oneF (c : Cfg) (s : S) (w : W1) (v : Int) : Int × S := match w with
  | .not => (if v = 0 then 1 else 0, s)
  | .minus => (wrapF (0 - v), s)
  | .draw => if v < 1 then (0, s) else (lateF s.seed / 16 % v, { s with seed := lateF s.seed })
  | .press => (if 0 ≤ v ∧ v < 8 then butF c s / 2 ^ v.toNat % 2 else 0, s)
  | .kind => (toldF s .kind v, s)
  | .left => (toldF s .left v, s)
  | .top => (toldF s .top v, s)
def twoF (c : Cfg) (w : W2) (a b : Int) : Int := match w with
  | .add => wrapF (a + b)
  | .sub => wrapF (a - b)
  | .mul => wrapF (a * b)
  | .div => if b = 0 then 0 else wrapF (a.fdiv b)
  | .rest => if b = 0 then 0 else wrapF (a.fmod b)
  | .less => if a < b then 1 else 0
  | .same => if a = b then 1 else 0
  | .and => if a ≠ 0 ∧ b ≠ 0 then 1 else 0
  | .or => if a ≠ 0 ∨ b ≠ 0 then 1 else 0
  | .cell => markF c.rows c.wd a b
def evE (c : Cfg) : Ex → S → Int × S
  | .num n, s => (n, s)
  | .nam w, s => (wrapF (ldF c s w), s)
  | .one w e, s => oneF c (evE c e s).2 w (evE c e s).1
  | .two w e f, s => (twoF c w (evE c e s).1 (evE c f (evE c e s).2).1, (evE c f (evE c e s).2).2)
def putB (c : Cfg) (s : S) (b : Bod) : S := { s with bs := s.bs.set c.ix b }
def setF (c : Cfg) (s : S) (w : Nm) (v : Int) : S := match w with
  | .dx => putB c s { bodF c s with dx := nearF v }
  | .dy => putB c s { bodF c s with dy := nearF v }
  | .cell i => putB c s { bodF c s with cells := (bodF c s).cells.set i v }
  | .sh i => { s with sh := s.sh.set i v }
  | _ => s
def makeF (c : Cfg) (s : S) (k x y v : Int) : S := if s.asked.length < 32 ∧ k < c.nk then { s with asked := s.asked ++ [[k, x, y, (bodF c s).owner, v]] } else s
def shoveB (n a b : Int) (x : Bod) : Bod := if x.num = n then { x with dx := nearF (x.dx + a), dy := nearF (x.dy + b) } else x
def pushF (s : S) (n a b : Int) : S := { s with bs := s.bs.map (shoveB n a b) }
def sayF (s : S) (v : Int) : S := if s.said.length < 64 then { s with said := s.said ++ [v] } else s
def ev3 (c : Cfg) (e f g : Ex) (s : S) : Int × Int × Int × S :=
  ((evE c e s).1, (evE c f (evE c e s).2).1, (evE c g (evE c f (evE c e s).2).2).1, (evE c g (evE c f (evE c e s).2).2).2)
def plF (c : Cfg) : Sm → S → Option S
  | .set w e, s => some (setF c (evE c e s).2 w (evE c e s).1)
  | .make k e f g, s => some (makeF c (ev3 c e f g s).2.2.2 k (ev3 c e f g s).1 (ev3 c e f g s).2.1 (ev3 c e f g s).2.2.1)
  | .push e f g, s => some (pushF (ev3 c e f g s).2.2.2 (ev3 c e f g s).1 (ev3 c e f g s).2.1 (ev3 c e f g s).2.2.1)
  | .gone, s => some { s with gone := true }
  | .say e, s => some (sayF (evE c e s).2 (evE c e s).1)
  | .ite _ _ _, _ => none
  | .whl _ _, _ => none
def pay (s : S) : S := { s with fuel := s.fuel - 1 }
inductive Job where
  | body (l : List Sm)
  | stm (x : Sm)
  | rnd (e : Ex) (l : List Sm)
/-- from s the job ends in s', told whether the fuel was enough -/
inductive Runs (c : Cfg) : Job → S → Bool → S → Prop
  | nil (s : S) : Runs c (.body []) s true s
  | stop {x : Sm} {l : List Sm} {s s' : S} (h : Runs c (.stm x) s false s') : Runs c (.body (x :: l)) s false s'
  | cons {x : Sm} {l : List Sm} {s s1 s2 : S} {b : Bool} (h : Runs c (.stm x) s true s1) (g : Runs c (.body l) s1 b s2) : Runs c (.body (x :: l)) s b s2
  | dry {x : Sm} {s : S} (h : s.fuel = 0) : Runs c (.stm x) s false s
  | ite {e : Ex} {a b : List Sm} {s s2 : S} {r : Bool} (h : 0 < s.fuel) (g : Runs c (.body (if (evE c e (pay s)).1 ≠ 0 then a else b)) (evE c e (pay s)).2 r s2) : Runs c (.stm (.ite e a b)) s r s2
  | whl {e : Ex} {l : List Sm} {s s2 : S} {r : Bool} (h : 0 < s.fuel) (g : Runs c (.rnd e l) (pay s) r s2) : Runs c (.stm (.whl e l)) s r s2
  | plain {x : Sm} {s s1 : S} (h : 0 < s.fuel) (g : plF c x (pay s) = some s1) : Runs c (.stm x) s true s1
  | fin {e : Ex} {l : List Sm} {s : S} (h : (evE c e s).1 = 0) : Runs c (.rnd e l) s true (evE c e s).2
  | rstop {e : Ex} {l : List Sm} {s s2 : S} (h : (evE c e s).1 ≠ 0) (g : Runs c (.body l) (evE c e s).2 false s2) : Runs c (.rnd e l) s false s2
  | rdry {e : Ex} {l : List Sm} {s s2 : S} (h : (evE c e s).1 ≠ 0) (g : Runs c (.body l) (evE c e s).2 true s2) (k : s2.fuel = 0) : Runs c (.rnd e l) s false s2
  | rgo {e : Ex} {l : List Sm} {s s2 s3 : S} {b : Bool} (h : (evE c e s).1 ≠ 0) (g : Runs c (.body l) (evE c e s).2 true s2) (k : 0 < s2.fuel) (r : Runs c (.rnd e l) (pay s2) b s3) : Runs c (.rnd e l) s b s3
theorem Runs.det {c : Cfg} {j : Job} {s : S} {b : Bool} {s1 : S} (h : Runs c j s b s1) : ∀ {b' : Bool} {s2 : S}, Runs c j s b' s2 → b = b' ∧ s1 = s2 := by
  induction h with
  | nil s => intro b' s2 g; cases g; exact ⟨rfl, rfl⟩
  | stop h ih =>
    intro b' s2 g
    cases g with
    | stop g => exact ⟨rfl, (ih g).2⟩
    | cons g _ => exact absurd (ih g).1 (by decide)
  | cons h g ih1 ih2 =>
    intro b' s2 k
    cases k with
    | stop k => exact absurd (ih1 k).1 (by decide)
    | cons k1 k2 =>
      have e := (ih1 k1).2
      subst e
      exact ih2 k2
  | dry h =>
    intro b' s2 g
    cases g with
    | dry _ => exact ⟨rfl, rfl⟩
    | ite q _ => omega
    | whl q _ => omega
    | plain q _ => omega
  | ite h g ih =>
    intro b' s2 k
    cases k with
    | dry q => omega
    | ite _ k => exact ih k
    | plain _ q => cases q
  | whl h g ih =>
    intro b' s2 k
    cases k with
    | dry q => omega
    | whl _ k => exact ih k
    | plain _ q => cases q
  | plain h g =>
    intro b' s2 k
    cases k with
    | dry q => omega
    | ite _ _ => cases g
    | whl _ _ => cases g
    | plain _ q =>
      rw [g] at q
      exact ⟨rfl, Option.some.inj q⟩
  | fin h =>
    intro b' s2 k
    cases k with
    | fin _ => exact ⟨rfl, rfl⟩
    | rstop q _ => exact absurd h q
    | rdry q _ _ => exact absurd h q
    | rgo q _ _ _ => exact absurd h q
  | rstop h g ih =>
    intro b' s2 k
    cases k with
    | fin q => exact absurd q h
    | rstop _ q => exact ⟨rfl, (ih q).2⟩
    | rdry _ q _ => exact absurd (ih q).1 (by decide)
    | rgo _ q _ _ => exact absurd (ih q).1 (by decide)
  | rdry h g k ih =>
    intro b' s2 m
    cases m with
    | fin q => exact absurd q h
    | rstop _ q => exact absurd (ih q).1 (by decide)
    | rdry _ q _ => exact ⟨rfl, (ih q).2⟩
    | rgo _ q z _ =>
      have e := (ih q).2
      subst e
      omega
  | rgo h g k r ih1 ih2 =>
    intro b' s2 m
    cases m with
    | fin q => exact absurd q h
    | rstop _ q => exact absurd (ih1 q).1 (by decide)
    | rdry _ q z =>
      have e := (ih1 q).2
      subst e
      omega
    | rgo _ q z m =>
      have e := (ih1 q).2
      subst e
      exact ih2 m
/-! ### what stays -/
structure WfS (c : Cfg) (s : S) : Prop where
  sh : s.sh.length = 8
  bs : BodsOk c.nk c.pl s.bs
  ix : c.ix < s.bs.length
  num : (bodF c s).num = c.num
  s0 : 0 ≤ s.seed
  s1 : s.seed ≤ 2147483646
  sa : s.said.length ≤ 64
  as : s.asked.length ≤ 32
  fu : s.fuel ≤ 100
structure WfC (c : Cfg) : Prop where
  inp : (c.inp.length : Int) = c.pl
  inb : ∀ n ∈ c.inp, 0 ≤ n ∧ n ≤ 255
  nk : c.nk ≤ 8
  pl : c.pl ≤ 4
  rows : RowsOk c.rows c.wd
  asc : c.lv0.Pairwise (· < ·)
  ll : c.lv0.length ≤ 20
theorem BodsOk.same {nk pl : Int} {bs bs' : List Bod} (h : BodsOk nk pl bs) (e : bs'.map (·.num) = bs.map (·.num)) (k : ∀ b ∈ bs', BodOk nk pl b) : BodsOk nk pl bs' := by
  have hl : bs'.length = bs.length := by
    have := congrArg List.length e
    simpa using this
  refine ⟨k, by rw [e]; exact h.asc, fun b hb => ?_, by rw [hl]; exact h.len⟩
  have : b.num ∈ bs.map (·.num) := by rw [← e]; exact List.mem_map_of_mem hb
  obtain ⟨b2, h2, e2⟩ := List.mem_map.mp this
  rw [← e2]
  exact h.n0 b2 h2
theorem WfS.get {c : Cfg} {s : S} (h : WfS c s) : s.bs[c.ix]? = some (bodF c s) := by
  unfold bodF
  rw [List.getD_eq_getElem?_getD, List.getElem?_eq_getElem h.ix]
  rfl
theorem WfS.bod {c : Cfg} {s : S} (h : WfS c s) : BodOk c.nk c.pl (bodF c s) := h.bs.all _ (List.mem_of_getElem? h.get)
theorem bodF_put {c : Cfg} {s : S} {b : Bod} (h : c.ix < s.bs.length) : bodF c (putB c s b) = b := by
  unfold bodF putB
  rw [List.getD_eq_getElem?_getD, List.getElem?_set_self h]
  rfl
theorem WfS.put {c : Cfg} {s : S} (h : WfS c s) {b : Bod} (e : b.num = (bodF c s).num) (k : BodOk c.nk c.pl b) : WfS c (putB c s b) := by
  refine ⟨h.sh, h.bs.same ?_ ?_, by unfold putB; rw [List.length_set]; exact h.ix, by rw [bodF_put h.ix, e, h.num], h.s0, h.s1, h.sa, h.as, h.fu⟩
  · unfold putB
    show (s.bs.set c.ix b).map (·.num) = _
    rw [List.map_set]
    apply List.ext_getElem?
    intro i
    by_cases z : c.ix = i
    · subst z
      rw [List.getElem?_set_self (by rw [List.length_map]; exact h.ix), List.getElem?_map, h.get, e]
      rfl
    · rw [List.getElem?_set_ne z]
  · intro x hx
    rcases List.mem_or_eq_of_mem_set hx with q | q
    · exact h.bs.all x q
    · rw [q]; exact k
theorem wrapF_sml (n : Int) : Sml (wrapF n) := by
  unfold wrapF Sml
  omega
theorem late_ok (n : Int) : 0 ≤ lateF n ∧ lateF n ≤ 2147483646 := by
  unfold lateF
  omega
theorem evE_wf {c : Cfg} : ∀ (e : Ex) {s : S}, WfS c s → WfS c (evE c e s).2 ∧ (evE c e s).2.fuel = s.fuel
  | .num _, s, h => ⟨h, rfl⟩
  | .nam _, s, h => ⟨h, rfl⟩
  | .one w e, s, h => by
    obtain ⟨h1, h2⟩ := evE_wf e h
    show WfS c (oneF c (evE c e s).2 w (evE c e s).1).2 ∧ (oneF c (evE c e s).2 w (evE c e s).1).2.fuel = s.fuel
    rw [← h2]
    generalize (evE c e s).2 = t at h1
    generalize (evE c e s).1 = v
    cases w <;> try exact ⟨h1, rfl⟩
    show WfS c (if v < 1 then ((0 : Int), t) else (lateF t.seed / 16 % v, { t with seed := lateF t.seed })).2 ∧ _
    unfold oneF
    split
    · exact ⟨h1, by simp only⟩
    · refine ⟨⟨h1.sh, h1.bs, h1.ix, h1.num, (late_ok _).1, (late_ok _).2, h1.sa, h1.as, h1.fu⟩, by simp only⟩
  | .two w e f, s, h => by
    obtain ⟨h1, h2⟩ := evE_wf e h
    obtain ⟨h3, h4⟩ := evE_wf f h1
    exact ⟨h3, h4.trans h2⟩
theorem ev3_wf {c : Cfg} (e f g : Ex) {s : S} (h : WfS c s) : WfS c (ev3 c e f g s).2.2.2 ∧ (ev3 c e f g s).2.2.2.fuel = s.fuel := by
  obtain ⟨h1, h2⟩ := evE_wf e h
  obtain ⟨h3, h4⟩ := evE_wf f h1
  obtain ⟨h5, h6⟩ := evE_wf g h3
  exact ⟨h5, h6.trans (h4.trans h2)⟩
theorem shove_wf {c : Cfg} {s : S} (h : WfS c s) (n a b : Int) : WfS c (pushF s n a b) := by
  have hm : (s.bs.map (shoveB n a b)).map (·.num) = s.bs.map (·.num) := by
    rw [List.map_map]
    apply List.map_congr_left
    intro x _
    show (shoveB n a b x).num = x.num
    unfold shoveB
    split <;> rfl
  have hg : bodF c (pushF s n a b) = shoveB n a b (bodF c s) := by
    show (s.bs.map (shoveB n a b)).getD c.ix b0 = _
    rw [List.getD_eq_getElem?_getD, List.getElem?_map, h.get]
    rfl
  refine ⟨h.sh, h.bs.same hm ?_, by show c.ix < (s.bs.map _).length; rw [List.length_map]; exact h.ix, ?_, h.s0, h.s1, h.sa, h.as, h.fu⟩
  · intro x hx
    obtain ⟨y, hy, rfl⟩ := List.mem_map.mp hx
    have q := h.bs.all y hy
    unfold shoveB
    split
    · exact ⟨q.k0, q.k1, q.x0, q.x1, q.y0, q.y1, q.o0, q.o1, q.cl⟩
    · exact q
  · rw [hg]
    unfold shoveB
    split <;> exact h.num
theorem plF_wf {c : Cfg} {x : Sm} {s s' : S} (h : WfS c s) (e : plF c x s = some s') : WfS c s' ∧ s'.fuel = s.fuel := by
  cases x with
  | set w e1 =>
    cases e
    obtain ⟨h1, h2⟩ := evE_wf e1 h
    generalize (evE c e1 s).1 = v
    generalize (evE c e1 s).2 = t at h1 h2
    rw [← h2]
    have q := h1.bod
    cases w <;> try exact ⟨h1, rfl⟩
    · exact ⟨h1.put rfl ⟨q.k0, q.k1, q.x0, q.x1, q.y0, q.y1, q.o0, q.o1, q.cl⟩, rfl⟩
    · exact ⟨h1.put rfl ⟨q.k0, q.k1, q.x0, q.x1, q.y0, q.y1, q.o0, q.o1, q.cl⟩, rfl⟩
    · exact ⟨h1.put rfl ⟨q.k0, q.k1, q.x0, q.x1, q.y0, q.y1, q.o0, q.o1, by show (List.set _ _ _).length = 4; rw [List.length_set]; exact q.cl⟩, rfl⟩
    · exact ⟨⟨by show (List.set _ _ _).length = 8; rw [List.length_set]; exact h1.sh, h1.bs, h1.ix, h1.num, h1.s0, h1.s1, h1.sa, h1.as, h1.fu⟩, rfl⟩
  | make k e1 f g =>
    cases e
    obtain ⟨h1, h2⟩ := ev3_wf e1 f g h
    generalize ev3 c e1 f g s = z at h1 h2
    unfold makeF
    split
    · refine ⟨⟨h1.sh, h1.bs, h1.ix, h1.num, h1.s0, h1.s1, h1.sa, ?_, h1.fu⟩, h2⟩
      show (_ ++ [_]).length ≤ 32
      rw [List.length_append]
      show _ + 1 ≤ 32
      omega
    · exact ⟨h1, h2⟩
  | push e1 f g =>
    cases e
    obtain ⟨h1, h2⟩ := ev3_wf e1 f g h
    exact ⟨shove_wf h1 _ _ _, h2⟩
  | gone =>
    cases e
    exact ⟨⟨h.sh, h.bs, h.ix, h.num, h.s0, h.s1, h.sa, h.as, h.fu⟩, rfl⟩
  | say e1 =>
    cases e
    obtain ⟨h1, h2⟩ := evE_wf e1 h
    generalize (evE c e1 s).2 = t at h1 h2
    unfold sayF
    split
    · refine ⟨⟨h1.sh, h1.bs, h1.ix, h1.num, h1.s0, h1.s1, ?_, h1.as, h1.fu⟩, h2⟩
      show (_ ++ [_]).length ≤ 64
      rw [List.length_append]
      show _ + 1 ≤ 64
      omega
    · exact ⟨h1, h2⟩
  | ite _ _ _ => cases e
  | whl _ _ => cases e
theorem pay_wf {c : Cfg} {s : S} (h : WfS c s) : WfS c (pay s) := ⟨h.sh, h.bs, h.ix, h.num, h.s0, h.s1, h.sa, h.as, by show s.fuel - 1 ≤ 100; have := h.fu; omega⟩
theorem Runs.wf {c : Cfg} {j : Job} {s : S} {b : Bool} {s1 : S} (h : Runs c j s b s1) : WfS c s → WfS c s1 ∧ s1.fuel ≤ s.fuel := by
  induction h with
  | nil s => exact fun w => ⟨w, Nat.le_refl _⟩
  | stop h ih => exact ih
  | cons h g ih1 ih2 =>
    intro w
    obtain ⟨h1, h2⟩ := ih1 w
    obtain ⟨h3, h4⟩ := ih2 h1
    exact ⟨h3, Nat.le_trans h4 h2⟩
  | dry h => exact fun w => ⟨w, Nat.le_refl _⟩
  | @ite e a b s s2 r h g ih =>
    intro w
    obtain ⟨h1, h2⟩ := evE_wf e (pay_wf w)
    obtain ⟨h3, h4⟩ := ih h1
    refine ⟨h3, ?_⟩
    have : (pay s).fuel = s.fuel - 1 := rfl
    omega
  | @whl e l s s2 r h g ih =>
    intro w
    obtain ⟨h3, h4⟩ := ih (pay_wf w)
    refine ⟨h3, ?_⟩
    have : (pay s).fuel = s.fuel - 1 := rfl
    omega
  | @plain x s s1 h g =>
    intro w
    obtain ⟨h3, h4⟩ := plF_wf (pay_wf w) g
    refine ⟨h3, ?_⟩
    have : (pay s).fuel = s.fuel - 1 := rfl
    omega
  | @fin e l s h =>
    intro w
    obtain ⟨h1, h2⟩ := evE_wf e w
    exact ⟨h1, by omega⟩
  | @rstop e l s s2 h g ih =>
    intro w
    obtain ⟨h1, h2⟩ := evE_wf e w
    obtain ⟨h3, h4⟩ := ih h1
    exact ⟨h3, by omega⟩
  | @rdry e l s s2 h g k ih =>
    intro w
    obtain ⟨h1, h2⟩ := evE_wf e w
    obtain ⟨h3, h4⟩ := ih h1
    exact ⟨h3, by omega⟩
  | @rgo e l s s2 s3 b h g k r ih1 ih2 =>
    intro w
    obtain ⟨h1, h2⟩ := evE_wf e w
    obtain ⟨h3, h4⟩ := ih1 h1
    obtain ⟨h5, h6⟩ := ih2 (pay_wf h3)
    have : (pay s2).fuel = s2.fuel - 1 := rfl
    exact ⟨h5, by omega⟩
end G
set_option Elab.async false
set_option linter.all false
set_option maxRecDepth 100000
set_option maxHeartbeats 4000000
namespace G
open PySem PySem.Spec PyProof.Rows L2
def spWrap : Sp := fun vs H Q _ => ∃ n : Int, vs = [.int n] ∧ Q (.int (wrapF n)) H
def spNear : Sp := fun vs H Q _ => ∃ n : Int, vs = [.int n] ∧ Q (.int (nearF n)) H
def spSign : Sp := fun vs H Q _ => ∃ (v : V) (rows : List (List Nat)) (wd : Nat) (x y : Int), vs = [v, .int x, .int y] ∧ RowsAt H v rows ∧ RowsOk rows wd ∧ Q (sg1 (signF rows wd x y)) H
def spSeen : Sp := fun vs H Q _ => ∃ (v : V) (rows : List (List Nat)) (wd : Nat) (x y : Int), vs = [v, .int x, .int y] ∧ RowsAt H v rows ∧ RowsOk rows wd ∧ Q (.int (markF rows wd x y)) H
theorem signF_sg {rows : List (List Nat)} {wd : Nat} {x y : Int} (ok : RowsOk rows wd) : Sg (signF rows wd x y) := by
  unfold signF
  split
  · exact .inl rfl
  · rename_i h
    have h1 : (y / 8).toNat < rows.length := by omega
    have e1 : rows.getD (y / 8).toNat [] = rows[(y / 8).toNat] := by rw [List.getD_eq_getElem?_getD, List.getElem?_eq_getElem h1]; rfl
    have hr := ok.sg _ (List.getElem_mem h1)
    rw [e1]
    have h2 : (x / 8).toNat < rows[(y / 8).toNat].length := by rw [hr.1]; omega
    rw [List.getD_eq_getElem?_getD, List.getElem?_eq_getElem h2]
    exact hr.2 _ (List.getElem_mem h2)
theorem sg_int {c : Nat} (h : 48 ≤ c ∧ c ≤ 57) : PySem.intText? (⟨#[c]⟩ : Str) = some ((c : Int) - 48) := by
  have h2 : c = 48 ∨ c = 49 ∨ c = 50 ∨ c = 51 ∨ c = 52 ∨ c = 53 ∨ c = 54 ∨ c = 55 ∨ c = 56 ∨ c = 57 := by omega
  rcases h2 with q | q | q | q | q | q | q | q | q | q <;> subst q <;> decide +kernel
theorem sg_wall {c : Nat} (h : Sg c) : decide (sg1 c = .str "#") = decide (c = 35) := by
  have h2 : c = 35 ∨ c = 46 ∨ c = 48 ∨ c = 49 ∨ c = 50 ∨ c = 51 ∨ c = 52 ∨ c = 53 ∨ c = 54 ∨ c = 55 ∨ c = 56 ∨ c = 57 := by
    unfold Sg at h
    omega
  rcases h2 with q | q | q | q | q | q | q | q | q | q | q | q <;> subst q <;> decide +kernel
theorem sg_free {c : Nat} (h : Sg c) : decide (sg1 c = .str ".") = decide (c = 46) := by
  have h2 : c = 35 ∨ c = 46 ∨ c = 48 ∨ c = 49 ∨ c = 50 ∨ c = 51 ∨ c = 52 ∨ c = 53 ∨ c = 54 ∨ c = 55 ∨ c = 56 ∨ c = 57 := by
    unfold Sg at h
    omega
  rcases h2 with q | q | q | q | q | q | q | q | q | q | q | q <;> subst q <;> decide +kernel
section
variable {P : Program} {w : World} {K : PySem.W.Frag} {mg : Str → Option Value} {base : Heap}
theorem scl_wrap : FnScope ["_law_number", "_law_left"] ["_law_number"] (defScope sl_wrap) := ⟨rfl, rfl, rfl, by decide +kernel, rfl, by decide +kernel, by decide +kernel⟩
theorem ok_l_wrap (T : Tx w K mg) : Cal P w K mg base "_law_wrap" 1 ["_law_number"] spWrap := by
  obtain ⟨fd, F⟩ : ∃ fd, Fun K "_law_wrap" "_law_wrap" sl_wrap 893 fd := T.fn 87 _ rfl
  refine T.cal F 146 rfl (fun _ _ _ _ _ _ us hl => match us, hl with | [_], _ => rfl) ?_
  refine F.ok scl_wrap (fun vs H Q E h => ?_) (fun cdv A outer s H vs Q E hr h => ?_)
  · obtain ⟨n, rfl, _⟩ := h
    rfl
  obtain ⟨n, rfl, k⟩ := h
  refine ⟨_, (pss_cons (ps_set (i := 1) scl_wrap.nd rfl (Or.inl rfl) (pe_op op_mod (pe_callTy call_int1 rfl (fr_int T) (by decide +kernel) (pa_cons (pv 0) pa_nil)) pe_int))
    (pss_cons (ps_if (pt_cmpR op_ge (pv 1) pe_int (nomark _)) (pss_one (ps_ret (pe_op op_sub (pv 1) pe_int))) pss_nil)
    (pss_one (ps_ret (pv 1))))), ?_⟩
  refine ⟨_, rfl, .inl ⟨n, rfl, _, _, rfl, rfl, (by show (0:Int) < 4294967296; decide), ?_⟩⟩
  refine ⟨_, rfl, _, _, rfl, rfl, _, rfl, ite2 (fun c => ?_) (fun c => ?_)⟩
  · have c' : n % 4294967296 ≥ 2147483648 := of_decide_eq_true c
    refine ⟨_, rfl, _, _, rfl, rfl, ?_⟩
    show Q (.int (n % 4294967296 - 4294967296)) H
    rw [show n % 4294967296 - 4294967296 = wrapF n by unfold wrapF; omega]
    exact k
  · have c' : ¬ n % 4294967296 ≥ 2147483648 := fun z => c (decide_eq_true z)
    refine ⟨_, rfl, ?_⟩
    show Q (.int (n % 4294967296)) H
    rw [show n % 4294967296 = wrapF n by unfold wrapF; omega]
    exact k
theorem scl_near : FnScope ["_law_speed"] ["_law_speed"] (defScope sl_near) := ⟨rfl, rfl, rfl, by decide +kernel, rfl, by decide +kernel, by decide +kernel⟩
theorem ok_l_near (T : Tx w K mg) : Cal P w K mg base "_law_near" 1 ["_law_speed"] spNear := by
  obtain ⟨fd, F⟩ : ∃ fd, Fun K "_law_near" "_law_near" sl_near 900 fd := T.fn 88 _ rfl
  refine T.cal F 147 rfl (fun _ _ _ _ _ _ us hl => match us, hl with | [_], _ => rfl) ?_
  refine F.ok scl_near (fun vs H Q E h => ?_) (fun cdv A outer s H vs Q E hr h => ?_)
  · obtain ⟨n, rfl, _⟩ := h
    rfl
  obtain ⟨n, rfl, k⟩ := h
  unfold nearF at k
  refine ⟨_, (pss_cons (ps_if (pt_cmpR op_gt (pv 0) pe_int (nomark _)) (pss_one (ps_ret pe_int)) pss_nil)
    (pss_cons (ps_if (pt_cmpR op_lt (pv 0) (pe_un un_neg pe_int) (nomark _)) (pss_one (ps_ret (pe_un un_neg pe_int))) pss_nil)
    (pss_one (ps_ret (pv 0))))), ?_⟩
  refine ⟨_, rfl, _, _, rfl, rfl, _, rfl, ite2 (fun c => ?_) (fun c => ?_)⟩
  · rw [if_pos (show n > 16 from of_decide_eq_true c)] at k
    exact k
  rw [if_neg (show ¬ n > 16 from fun z => c (decide_eq_true z))] at k
  refine ⟨_, rfl, _, rfl, _, _, rfl, rfl, _, rfl, ite2 (fun c => ?_) (fun c => ?_)⟩
  · rw [if_pos (show n < -16 from of_decide_eq_true c)] at k
    exact ⟨_, rfl, k⟩
  · rw [if_neg (show ¬ n < -16 from fun z => c (decide_eq_true z))] at k
    exact ⟨_, rfl, k⟩
theorem scl_sign : FnScope ["_law_rows_here", "_law_x", "_law_y"] ["_law_rows_here", "_law_x", "_law_y"] (defScope sl_sign) := ⟨rfl, rfl, rfl, by decide +kernel, rfl, by decide +kernel, by decide +kernel⟩
theorem ok_l_sign (T : Tx w K mg) : Cal P w K mg base "_law_sign" 1 ["_law_rows_here", "_law_x", "_law_y"] spSign := by
  obtain ⟨fd, F⟩ : ∃ fd, Fun K "_law_sign" "_law_sign" sl_sign 783 fd := T.fn 71 _ rfl
  refine T.cal F 130 rfl (fun _ _ _ _ _ _ us hl => match us, hl with | [_, _, _], _ => rfl) ?_
  refine F.ok scl_sign (fun vs H Q E h => ?_) (fun cdv A outer s H vs Q E hr h => ?_)
  · obtain ⟨v, rows, wd, x, y, rfl, _⟩ := h
    rfl
  obtain ⟨v, rows, wd, x, y, rfl, ⟨t, rfl, et⟩, ok, k⟩ := h
  refine ⟨_, (C8.pss_cut (ps_if (PW.pt (pw_or (pt_cmpR op_lt (pv 1) pe_int (nomark _)) (pw_or (pt_cmpR op_lt (pv 2) pe_int (nomark _)) (pw_or (pt_cmpR op_ge (pv 1) (pe_op op_mul pe_int (pe_callB call_len rfl (fr_len T) (by decide +kernel) (pa_cons (pe_ix ix_tup (pv 0) pe_int (fun _ _ => rfl)) pa_nil))) (nomark _)) (pw_or1 (pt_cmpR op_ge (pv 2) (pe_op op_mul pe_int (pe_callB call_len_seq rfl (fr_len T) (by decide +kernel) (pa_cons (pv 0) pa_nil))) (nomark _))))))) (pss_one (ps_ret pe_str)) pss_nil)
    (pss_one (ps_ret (pe_ix ix_str (pe_ix ix_tup (pv 0) (pe_op op_fdiv (pv 2) pe_int) (fun _ _ => rfl)) (pe_op op_fdiv (pv 1) pe_int) (fun _ _ => rfl))))), ?_⟩
  have n1 := ok.n1
  obtain ⟨r0, er0⟩ : ∃ r, rows[0]? = some r := ⟨rows[0], List.getElem?_eq_getElem (by omega)⟩
  have hr0 := ok.sg r0 (List.mem_of_getElem? er0)
  have w2 := ok.w2
  have g0 : atI (rows.map rwV) 0 = some (rwV r0) := atI_of (j := 0) rfl (by rw [List.getElem?_map, er0]; rfl)
  have l0 : LenV K (rwV r0) H wd := ⟨Nat.le_trans (show r0.length ≤ 12 by rw [hr0.1]; exact w2) (by decide), hr0.1.symm⟩
  have lr : (rows.map rwV).length = rows.length := List.length_map ..
  have out : (x < 0 ∨ y < 0 ∨ x ≥ 8 * (wd : Int) ∨ y ≥ 8 * (rows.length : Int)) → Q (.str "#") H := fun z => by
    unfold signF at k
    rw [if_pos z] at k
    exact k
  refine ⟨fun σ' H' => σ' = [some (.ref t), some (.int x), some (.int y)] ∧ H' = H ∧ ¬ (x < 0 ∨ y < 0 ∨ x ≥ 8 * (wd : Int) ∨ y ≥ 8 * (rows.length : Int)), ?_, ?_⟩
  · refine ⟨_, rfl, _, _, rfl, rfl, _, rfl, hit (fun c => iteT (out (.inl (of_decide_eq_true c)))) (fun c1 => ?_)⟩
    refine ⟨_, rfl, _, _, rfl, rfl, _, rfl, hit (fun c => iteT (out (.inr (.inl (of_decide_eq_true c))))) (fun c2 => ?_)⟩
    refine ⟨_, rfl, _, rfl, t, _, 0, _, rfl, rfl, SqT.of et, g0, rwV r0, wd, rfl, l0, _, _, rfl, rfl, .inl ⟨by decide, by decide⟩, _, _, rfl, rfl, _, rfl, hit (fun c => iteT (out (.inr (.inr (.inl (of_decide_eq_true c)))))) (fun c3 => ?_)⟩
    refine ⟨_, rfl, _, rfl, t, _, rfl, .inr (SqT.of et), _, _, rfl, rfl, .inl ⟨by decide, by decide⟩, _, _, rfl, rfl, _, rfl, ?_⟩
    rw [lr]
    refine hit (fun c => out (.inr (.inr (.inr (of_decide_eq_true c))))) (fun c4 => ⟨rfl, rfl, ?_⟩)
    have a1 := of_decide_eq_false c1
    have a2 := of_decide_eq_false c2
    have a3 := of_decide_eq_false c3
    have a4 := of_decide_eq_false c4
    omega
  rintro σ' H' ⟨rfl, rfl, z⟩
  unfold signF at k
  rw [if_neg z] at k
  have h1 : (y / 8).toNat < rows.length := by omega
  have e1 : rows.getD (y / 8).toNat [] = rows[(y / 8).toNat] := by rw [List.getD_eq_getElem?_getD, List.getElem?_eq_getElem h1]; rfl
  have hr := ok.sg _ (List.getElem_mem h1)
  rw [e1] at k
  have h2 : (x / 8).toNat < rows[(y / 8).toNat].length := by rw [hr.1]; omega
  rw [List.getD_eq_getElem?_getD, List.getElem?_eq_getElem h2] at k
  refine ⟨_, rfl, _, rfl, _, _, rfl, rfl, ⟨by decide, by decide⟩, t, _, _, rwV rows[(y / 8).toNat], rfl, rfl, SqT.of et, atI_of (j := (y / 8).toNat) (by omega) (by rw [List.getElem?_map, List.getElem?_eq_getElem h1]; rfl), _, rfl, _, _, rfl, rfl, ⟨by decide, by decide⟩, _, _, _, rfl, rfl, Nat.le_trans (show rows[(y / 8).toNat].length ≤ 12 by rw [hr.1]; exact w2) (by decide), atI_of (j := (x / 8).toNat) (by omega) (List.getElem?_eq_getElem h2), k⟩
theorem scl_seen : FnScope ["_law_rows_here", "_law_x", "_law_y", "_law_sign_here"] ["_law_rows_here", "_law_x", "_law_y"] (defScope sl_seen) := ⟨rfl, rfl, rfl, by decide +kernel, rfl, by decide +kernel, by decide +kernel⟩
theorem ok_l_seen (T : Tx w K mg) : Cal P w K mg base "_law_seen" 2 ["_law_rows_here", "_law_x", "_law_y"] spSeen := by
  obtain ⟨fd, F⟩ : ∃ fd, Fun K "_law_seen" "_law_seen" sl_seen 931 fd := T.fn 93 _ rfl
  refine T.cal F 152 rfl (fun _ _ _ _ _ _ us hl => match us, hl with | [_, _, _], _ => rfl) ?_
  refine F.ok scl_seen (fun vs H Q E h => ?_) (fun cdv A outer s H vs Q E hr h => ?_)
  · obtain ⟨v, rows, wd, x, y, rfl, _⟩ := h
    rfl
  obtain ⟨v, rows, wd, x, y, rfl, hR, ok, k⟩ := h
  refine ⟨_, (pss_cons (ps_set (i := 3) scl_seen.nd rfl (Or.inl rfl) (pe_k (ok_l_sign T) (hr.mono (by decide)) (pa_cons (pv 0) (pa_cons (pv 1) (pa_cons (pv 2) pa_nil)))))
    (pss_cons (ps_if (pt_cmpR op_eq (pv 3) pe_str (nomark _)) (pss_one (ps_ret pe_int)) pss_nil)
    (pss_cons (ps_if (pt_cmpR op_eq (pv 3) pe_str (nomark _)) (pss_one (ps_ret pe_int)) pss_nil)
    (pss_one (ps_ret (pe_callTy call_int_str rfl (fr_int T) (by decide +kernel) (pa_cons (pv 3) pa_nil))))))), ?_⟩
  refine ⟨_, rfl, _, rfl, _, rfl, v, rows, wd, x, y, rfl, hR, ok, ?_⟩
  have sg := signF_sg (x := x) (y := y) ok
  unfold markF at k
  show tSeq _ _ _ [some v, some (.int x), some (.int y), some (sg1 (signF rows wd x y))] H
  generalize signF rows wd x y = c at k sg
  refine ⟨_, rfl, rfl, _, rfl, ?_⟩
  rw [sg_wall sg]
  refine hit (fun h => ?_) (fun h => ?_)
  · rw [if_pos (of_decide_eq_true h)] at k
    exact k
  rw [if_neg (of_decide_eq_false h)] at k
  refine ⟨_, rfl, rfl, _, rfl, ?_⟩
  rw [sg_free sg]
  refine hit (fun h2 => ?_) (fun h2 => ?_)
  · rw [if_pos (of_decide_eq_true h2)] at k
    exact k
  rw [if_neg (of_decide_eq_false h2)] at k
  have a1 := of_decide_eq_false h
  have a2 := of_decide_eq_false h2
  have a3 : 48 ≤ c ∧ c ≤ 57 := by
    unfold Sg at sg
    omega
  exact ⟨_, rfl, _, _, rfl, sg_int a3, (by show 1 ≤ 640; decide), k⟩
end
end G
set_option Elab.async false
set_option linter.all false
set_option maxRecDepth 100000
set_option maxHeartbeats 4000000
/-! ### the law's state, as it stands in the heap -/
namespace G
open PySem PySem.Spec PyProof.Rows L2
structure LA where
  d : Addr
  sh : Addr
  bo : Addr
  sa : Addr
  as : Addr
  lv : Addr
  rt : Addr
  it : Addr
  bl : List Addr
def LA.mut (A : LA) : List Addr := A.d :: A.sh :: A.bo :: A.sa :: A.as :: A.lv :: A.bl
abbrev Md (A : LA) : Addr → Prop := fun a => a ∈ A.mut
def doK (c : Cfg) (A : LA) (seed fuel : Int) : List (Key × V) :=
  [(Sum.inr "tick", .int c.tick), (Sum.inr "seed", .int seed), (Sum.inr "shared", .ref A.sh), (Sum.inr "bodies", .ref A.bo), (Sum.inr "said", .ref A.sa), (Sum.inr "asked", .ref A.as), (Sum.inr "leaving", .ref A.lv), (Sum.inr "fuel", .int fuel),
   (Sum.inr "rows", .ref A.rt), (Sum.inr "kinds", .int c.nk), (Sum.inr "at", .int (c.ix : Nat)), (Sum.inr "other", .int c.other), (Sum.inr "side", .int c.side), (Sum.inr "inputs", .ref A.it)]
def blV (b : Bod) (cc : Addr) : List V := [.int b.num, .int b.kind, .int b.x, .int b.y, .int b.dx, .int b.dy, .int b.owner, .ref cc]
def BlAt (H : Hp) (a : Addr) (b : Bod) : Prop := ∃ cc, H a = some (.lst (blV b cc)) ∧ H cc = some (.tup (b.cells.map V.int))
def lvF (c : Cfg) (s : S) : List Int := if s.gone = true ∧ c.num ∉ c.lv0 then c.lv0 ++ [c.num] else c.lv0
structure LD (H : Hp) (A : LA) (c : Cfg) (s : S) (f : Int) : Prop where
  d : H A.d = some (.dK (doK c A s.seed f))
  sh : H A.sh = some (.lst (s.sh.map V.int))
  bo : H A.bo = some (.lst (A.bl.map V.ref))
  bl : All2 (BlAt H) A.bl s.bs
  sa : H A.sa = some (.lst (s.said.map V.int))
  as : ∃ vs, H A.as = some (.lst vs) ∧ All2 (AsAt H) vs s.asked
  lv : H A.lv = some (.lst ((lvF c s).map V.int))
  rt : H A.rt = some (.tup (c.rows.map rwV))
  it : H A.it = some (.tup (c.inp.map V.int))
  nd : A.mut.Nodup
theorem All2.monoM {α β : Type} {R T : α → β → Prop} : ∀ {l : List α} {r : List β}, (∀ a b, a ∈ l → R a b → T a b) → All2 R l r → All2 T l r
  | [], [], _, _ => trivial
  | _ :: l, _ :: r, f, h => ⟨f _ _ (List.mem_cons_self ..) h.1, All2.monoM (fun a b m q => f a b (List.mem_cons_of_mem _ m) q) h.2⟩
theorem All2.put {β : Type} {R T : Addr → β → Prop} {p : Addr} {b' : β} (hT : T p b') (ho : ∀ a b, a ≠ p → R a b → T a b) : ∀ {l : List Addr} {r : List β} {i : Nat}, l.Nodup → l[i]? = some p → All2 R l r → All2 T l (r.set i b')
  | [], _, _, _, e, _ => by simp at e
  | a :: l, b :: r, 0, nd, e, h => by
    have ea : a = p := by simpa using e
    subst ea
    refine ⟨hT, All2.monoM (fun x y m q => ho x y (fun z => ?_) q) h.2⟩
    rw [z] at m
    exact (List.nodup_cons.mp nd).1 m
  | a :: l, b :: r, i + 1, nd, e, h => by
    have e' : l[i]? = some p := by simpa using e
    refine ⟨ho a b (fun z => ?_) h.1, All2.put hT ho (List.nodup_cons.mp nd).2 e' h.2⟩
    rw [z] at nd
    exact (List.nodup_cons.mp nd).1 (List.mem_of_getElem? e')
theorem BlAt.kp {M : Addr → Prop} {H H' : Hp} (k : Kp M H H') {a : Addr} {b : Bod} (n : ¬ M a) (h : BlAt H a b) : BlAt H' a b := by
  obtain ⟨cc, h1, h2⟩ := h
  exact ⟨cc, k.keep _ _ h1 n, k.tup _ _ h2⟩
section
variable {H H' : Hp} {A : LA} {c : Cfg} {s : S} {f : Int}
theorem LA.md (A : LA) : Md A A.d ∧ Md A A.sh ∧ Md A A.bo ∧ Md A A.sa ∧ Md A A.as ∧ Md A A.lv ∧ ∀ a ∈ A.bl, Md A a := by
  refine ⟨?_, ?_, ?_, ?_, ?_, ?_, fun a h => ?_⟩ <;> simp [Md, LA.mut]
  simp [h]
theorem LD.kp {M : Addr → Prop} (h : LD H A c s f) (k : Kp M H H') (n : ∀ a, Md A a → ¬ M a) : LD H' A c s f := by
  obtain ⟨m1, m2, m3, m4, m5, m6, m7⟩ := A.md
  obtain ⟨vs, h1, h2⟩ := h.as
  exact ⟨k.keep _ _ h.d (n _ m1), k.keep _ _ h.sh (n _ m2), k.keep _ _ h.bo (n _ m3), All2.monoM (fun a b m q => q.kp k (n _ (m7 a m))) h.bl, k.keep _ _ h.sa (n _ m4), ⟨vs, k.keep _ _ h1 (n _ m5), h2.mono fun _ _ q => q.kp k⟩, k.keep _ _ h.lv (n _ m6), k.tup _ _ h.rt, k.tup _ _ h.it, h.nd⟩
theorem LD.new {p : Addr} {o : HO} (h : LD H A c s f) (n : H p = none) : LD (upd H p o) A c s f := h.kp (M := M0) (Kp.new n) fun _ _ z => z
theorem LD.kp0 (h : LD H A c s f) (k : Kp M0 H H') : LD H' A c s f := h.kp k fun _ _ z => z
theorem LD.fuel (h : LD H A c s f) (n : Nat) : LD H A c { s with fuel := n } f := ⟨h.d, h.sh, h.bo, h.bl, h.sa, h.as, h.lv, h.rt, h.it, h.nd⟩
theorem LD.nds (h : LD H A c s f) : (A.d ≠ A.sh ∧ A.d ≠ A.bo ∧ A.d ≠ A.sa ∧ A.d ≠ A.as ∧ A.d ≠ A.lv ∧ A.d ∉ A.bl) ∧ (A.sh ≠ A.bo ∧ A.sh ≠ A.sa ∧ A.sh ≠ A.as ∧ A.sh ≠ A.lv ∧ A.sh ∉ A.bl) ∧ (A.bo ≠ A.sa ∧ A.bo ≠ A.as ∧ A.bo ≠ A.lv ∧ A.bo ∉ A.bl) ∧
    (A.sa ≠ A.as ∧ A.sa ≠ A.lv ∧ A.sa ∉ A.bl) ∧ (A.as ≠ A.lv ∧ A.as ∉ A.bl) ∧ A.lv ∉ A.bl ∧ A.bl.Nodup := by
  have nd := h.nd
  simp only [LA.mut, List.nodup_cons, List.mem_cons, not_or] at nd
  obtain ⟨⟨a1, a2, a3, a4, a5, a6⟩, ⟨b1, b2, b3, b4, b5⟩, ⟨c1, c2, c3, c4⟩, ⟨d1, d2, d3⟩, ⟨e1, e2⟩, f1, g1⟩ := nd
  exact ⟨⟨a1, a2, a3, a4, a5, a6⟩, ⟨b1, b2, b3, b4, b5⟩, ⟨c1, c2, c3, c4⟩, ⟨d1, d2, d3⟩, ⟨e1, e2⟩, f1, g1⟩
theorem LD.kpD (h : LD H A c s f) (o : HO) : Kp (Md A) H (upd H A.d o) := Kp.rfl.set A.md.1 (not_tup h.d trivial)
theorem LD.setD (h : LD H A c s f) (sd f' : Int) : LD (upd H A.d (.dK (doK c A sd f'))) A c { s with seed := sd } f' := by
  obtain ⟨⟨a1, a2, a3, a4, a5, a6⟩, _⟩ := h.nds
  have k : Kp (fun a => a = A.d) H (upd H A.d (.dK (doK c A sd f'))) := Kp.rfl.set rfl (not_tup h.d trivial)
  obtain ⟨vs, h1, h2⟩ := h.as
  exact ⟨upd_same, k.keep _ _ h.sh a1.symm, k.keep _ _ h.bo a2.symm, All2.monoM (fun a b m q => q.kp k (fun z => a6 (z ▸ m))) h.bl, k.keep _ _ h.sa a3.symm, ⟨vs, k.keep _ _ h1 a4.symm, h2.mono fun _ _ q => q.kp k⟩, k.keep _ _ h.lv a5.symm, k.tup _ _ h.rt, k.tup _ _ h.it, h.nd⟩
theorem LD.setSh (h : LD H A c s f) (l : List Int) : LD (upd H A.sh (.lst (l.map V.int))) A c { s with sh := l } f ∧ Kp (Md A) H (upd H A.sh (.lst (l.map V.int))) := by
  obtain ⟨⟨a1, a2, a3, a4, a5, a6⟩, ⟨b1, b2, b3, b4, b5⟩, _⟩ := h.nds
  have k : Kp (fun a => a = A.sh) H (upd H A.sh (.lst (l.map V.int))) := Kp.rfl.set rfl (not_tup h.sh trivial)
  obtain ⟨vs, h1, h2⟩ := h.as
  exact ⟨⟨k.keep _ _ h.d a1, upd_same, k.keep _ _ h.bo b1.symm, All2.monoM (fun a b m q => q.kp k (fun z => b5 (z ▸ m))) h.bl, k.keep _ _ h.sa b2.symm, ⟨vs, k.keep _ _ h1 b3.symm, h2.mono fun _ _ q => q.kp k⟩, k.keep _ _ h.lv b4.symm, k.tup _ _ h.rt, k.tup _ _ h.it, h.nd⟩, k.weak fun a z => z ▸ A.md.2.1⟩
theorem LD.setSa (h : LD H A c s f) (l : List Int) : LD (upd H A.sa (.lst (l.map V.int))) A c { s with said := l } f ∧ Kp (Md A) H (upd H A.sa (.lst (l.map V.int))) := by
  obtain ⟨⟨a1, a2, a3, a4, a5, a6⟩, ⟨b1, b2, b3, b4, b5⟩, ⟨c1, c2, c3, c4⟩, ⟨d1, d2, d3⟩, _⟩ := h.nds
  have k : Kp (fun a => a = A.sa) H (upd H A.sa (.lst (l.map V.int))) := Kp.rfl.set rfl (not_tup h.sa trivial)
  obtain ⟨vs, h1, h2⟩ := h.as
  exact ⟨⟨k.keep _ _ h.d a3, k.keep _ _ h.sh b2, k.keep _ _ h.bo c1, All2.monoM (fun a b m q => q.kp k (fun z => d3 (z ▸ m))) h.bl, upd_same, ⟨vs, k.keep _ _ h1 d1.symm, h2.mono fun _ _ q => q.kp k⟩, k.keep _ _ h.lv d2.symm, k.tup _ _ h.rt, k.tup _ _ h.it, h.nd⟩, k.weak fun a z => z ▸ A.md.2.2.2.1⟩
theorem LD.setAs (h : LD H A c s f) {vs : List V} {l : List (List Int)} (hv : All2 (AsAt H) vs l) : LD (upd H A.as (.lst vs)) A c { s with asked := l } f ∧ Kp (Md A) H (upd H A.as (.lst vs)) := by
  obtain ⟨⟨a1, a2, a3, a4, a5, a6⟩, ⟨b1, b2, b3, b4, b5⟩, ⟨c1, c2, c3, c4⟩, ⟨d1, d2, d3⟩, ⟨e1, e2⟩, _⟩ := h.nds
  obtain ⟨us, h1, h2⟩ := h.as
  have k : Kp (fun a => a = A.as) H (upd H A.as (.lst vs)) := Kp.rfl.set rfl (not_tup h1 trivial)
  exact ⟨⟨k.keep _ _ h.d a4, k.keep _ _ h.sh b3, k.keep _ _ h.bo c2, All2.monoM (fun a b m q => q.kp k (fun z => e2 (z ▸ m))) h.bl, k.keep _ _ h.sa d1, ⟨vs, upd_same, hv.mono fun _ _ q => q.kp k⟩, k.keep _ _ h.lv e1.symm, k.tup _ _ h.rt, k.tup _ _ h.it, h.nd⟩, k.weak fun a z => z ▸ A.md.2.2.2.2.1⟩
theorem LD.setLv (h : LD H A c s f) (s' : S) (e1' : s'.seed = s.seed) (e2' : s'.sh = s.sh) (e3' : s'.bs = s.bs) (e4' : s'.said = s.said) (e5' : s'.asked = s.asked) : LD (upd H A.lv (.lst ((lvF c s').map V.int))) A c s' f ∧ Kp (Md A) H (upd H A.lv (.lst ((lvF c s').map V.int))) := by
  obtain ⟨⟨a1, a2, a3, a4, a5, a6⟩, ⟨b1, b2, b3, b4, b5⟩, ⟨c1, c2, c3, c4⟩, ⟨d1, d2, d3⟩, ⟨e1, e2⟩, f1, _⟩ := h.nds
  obtain ⟨us, h1, h2⟩ := h.as
  have k : Kp (fun a => a = A.lv) H (upd H A.lv (.lst ((lvF c s').map V.int))) := Kp.rfl.set rfl (not_tup h.lv trivial)
  refine ⟨⟨?_, ?_, k.keep _ _ h.bo c3, ?_, ?_, ⟨us, k.keep _ _ h1 e1, ?_⟩, upd_same, k.tup _ _ h.rt, k.tup _ _ h.it, h.nd⟩, k.weak fun a z => z ▸ A.md.2.2.2.2.2.1⟩
  · rw [e1']; exact k.keep _ _ h.d a5
  · rw [e2']; exact k.keep _ _ h.sh b4
  · rw [e3']; exact All2.monoM (fun a b m q => q.kp k (fun z => f1 (z ▸ m))) h.bl
  · rw [e4']; exact k.keep _ _ h.sa d2
  · rw [e5']; exact h2.mono fun _ _ q => q.kp k
theorem LD.setBl (h : LD H A c s f) {i : Nat} {p cc : Addr} {b : Bod} (hp : A.bl[i]? = some p) (hc : H cc = some (.tup (b.cells.map V.int))) : LD (upd H p (.lst (blV b cc))) A c { s with bs := s.bs.set i b } f ∧ Kp (Md A) H (upd H p (.lst (blV b cc))) := by
  obtain ⟨⟨a1, a2, a3, a4, a5, a6⟩, ⟨b1, b2, b3, b4, b5⟩, ⟨c1, c2, c3, c4⟩, ⟨d1, d2, d3⟩, ⟨e1, e2⟩, f1, g1⟩ := h.nds
  have pm := List.mem_of_getElem? hp
  obtain ⟨b', _, cc', hb', _⟩ := h.bl.getL hp
  have k : Kp (fun a => a = p) H (upd H p (.lst (blV b cc))) := Kp.rfl.set rfl (not_tup hb' trivial)
  obtain ⟨vs, h1, h2⟩ := h.as
  exact ⟨⟨k.keep _ _ h.d (fun z => a6 (z ▸ pm)), k.keep _ _ h.sh (fun z => b5 (z ▸ pm)), k.keep _ _ h.bo (fun z => c4 (z ▸ pm)), All2.put (R := BlAt H) ⟨cc, upd_same, k.tup _ _ hc⟩ (fun a b n q => q.kp k n) g1 hp h.bl, k.keep _ _ h.sa (fun z => d3 (z ▸ pm)), ⟨vs, k.keep _ _ h1 (fun z => e2 (z ▸ pm)), h2.mono fun _ _ q => q.kp k⟩, k.keep _ _ h.lv (fun z => f1 (z ▸ pm)), k.tup _ _ h.rt, k.tup _ _ h.it, h.nd⟩, k.weak fun a z => z ▸ A.md.2.2.2.2.2.2 p pm⟩
/-- a key of the law's dict -/
theorem LD.key (h : LD H A c s f) {z : Str} {v : V} (e : valV (doK c A s.seed f) (Sum.inr z) = some v) : DGet H A.d (.str z) (some v) := by
  rw [← e]
  exact .inl ⟨_, Sum.inr z, .inl h.d, rfl, rfl⟩
/-- the body that runs -/
theorem LD.me (h : LD H A c s f) (w : WfS c s) : ∃ p cc, A.bl[c.ix]? = some p ∧ (A.bl.map V.ref)[c.ix]? = some (.ref p) ∧ H p = some (.lst (blV (bodF c s) cc)) ∧ H cc = some (.tup ((bodF c s).cells.map V.int)) := by
  obtain ⟨p, hp, cc, h1, h2⟩ := h.bl.get w.get
  exact ⟨p, cc, hp, by rw [List.getElem?_map, hp]; rfl, h1, h2⟩
end
end G
set_option Elab.async false
set_option linter.all false
set_option maxRecDepth 100000
set_option maxHeartbeats 4000000
namespace G
open PySem PySem.Spec PyProof.Rows L2
section
variable {c : Cfg} {A : LA} {sd f x : Int}
theorem doK_tick : valV (doK c A sd f) (Sum.inr "tick") = some (.int c.tick) := by rfl
theorem doK_seed : valV (doK c A sd f) (Sum.inr "seed") = some (.int sd) := by rfl
theorem doK_sh : valV (doK c A sd f) (Sum.inr "shared") = some (.ref A.sh) := by rfl
theorem doK_bo : valV (doK c A sd f) (Sum.inr "bodies") = some (.ref A.bo) := by rfl
theorem doK_sa : valV (doK c A sd f) (Sum.inr "said") = some (.ref A.sa) := by rfl
theorem doK_as : valV (doK c A sd f) (Sum.inr "asked") = some (.ref A.as) := by rfl
theorem doK_lv : valV (doK c A sd f) (Sum.inr "leaving") = some (.ref A.lv) := by rfl
theorem doK_fuel : valV (doK c A sd f) (Sum.inr "fuel") = some (.int f) := by rfl
theorem doK_rows : valV (doK c A sd f) (Sum.inr "rows") = some (.ref A.rt) := by rfl
theorem doK_kinds : valV (doK c A sd f) (Sum.inr "kinds") = some (.int c.nk) := by rfl
theorem doK_at : valV (doK c A sd f) (Sum.inr "at") = some (.int (c.ix : Nat)) := by rfl
theorem doK_other : valV (doK c A sd f) (Sum.inr "other") = some (.int c.other) := by rfl
theorem doK_side : valV (doK c A sd f) (Sum.inr "side") = some (.int c.side) := by rfl
theorem doK_in : valV (doK c A sd f) (Sum.inr "inputs") = some (.ref A.it) := by rfl
theorem doK_putSeed : putK (doK c A sd f) (Sum.inr "seed") (.int x) = doK c A x f := by rfl
theorem doK_putFuel : putK (doK c A sd f) (Sum.inr "fuel") (.int x) = doK c A sd x := by rfl
end
def spBut : Sp := fun vs H Q _ => ∃ (A : LA) (c : Cfg) (s : S) (f : Int), vs = [.ref A.d] ∧ LD H A c s f ∧ WfS c s ∧ WfC c ∧ Q (.int (butF c s)) H
def spNamed : Sp := fun vs H Q _ => ∃ (A : LA) (c : Cfg) (s : S) (f : Int) (w : Nm), vs = [.ref A.d, .str w.str] ∧ LD H A c s f ∧ WfS c s ∧ WfC c ∧ w ∈ Nm.all ∧ ∀ H', Kp M0 H H' → Q (.int (ldF c s w)) H'
theorem butF_in {c : Cfg} {s : S} (w : WfS c s) (k : WfC c) (h : ¬ (bodF c s).owner < 0) : c.inp[(bodF c s).owner.toNat]? = some (butF c s) := by
  have q := w.bod
  have h1 := q.o1
  have h2 := k.inp
  have hl : (bodF c s).owner.toNat < c.inp.length := by omega
  unfold butF
  rw [if_neg h, List.getD_eq_getElem?_getD, List.getElem?_eq_getElem hl]
  rfl
section
variable {P : Program} {w : World} {K : PySem.W.Frag} {mg : Str → Option Value} {base : Heap}
theorem scl_buttons : FnScope ["_law_doing_here", "_law_owner"] ["_law_doing_here"] (defScope sl_buttons) := ⟨rfl, rfl, rfl, by decide +kernel, rfl, by decide +kernel, by decide +kernel⟩
theorem ok_l_buttons (T : Tx w K mg) : Cal P w K mg base "_law_buttons" 1 ["_law_doing_here"] spBut := by
  obtain ⟨fd, F⟩ : ∃ fd, Fun K "_law_buttons" "_law_buttons" sl_buttons 917 fd := T.fn 91 _ rfl
  refine T.cal F 150 rfl (fun _ _ _ _ _ _ us hl => match us, hl with | [_], _ => rfl) ?_
  refine F.ok scl_buttons (fun vs H Q E h => ?_) (fun cdv A outer s H vs Q E hr h => ?_)
  · obtain ⟨A, c, s, f, rfl, _⟩ := h
    rfl
  obtain ⟨A, c, s, f, rfl, hD, hw, hc, k⟩ := h
  have hu := hu_of hr
  refine ⟨_, (pss_cons (ps_set (i := 1) scl_buttons.nd rfl (Or.inl rfl) (pe_ix ix_list (pe_ix ix_list (pe_dget hu (pv 0) pe_str (fun _ _ => rfl)) (pe_dget hu (pv 0) pe_str (fun _ _ => rfl)) (fun _ _ => rfl)) pe_int (fun _ _ => rfl)))
    (pss_cons (ps_if (pt_cmpR op_eq (pv 1) (pe_un un_neg pe_int) (nomark _)) (pss_one (ps_ret pe_int)) pss_nil)
    (pss_one (ps_ret (pe_ix ix_tup (pe_dget hu (pv 0) pe_str (fun _ _ => rfl)) (pv 1) (fun _ _ => rfl)))))), ?_⟩
  obtain ⟨p, cc, hp, hpv, e1, e2⟩ := hD.me hw
  refine ⟨_, rfl, A.d, _, rfl, hD.key doK_bo, _, rfl, A.d, _, rfl, hD.key doK_at, A.bo, _, _, _, rfl, rfl, SqL.of hD.bo, atI_of rfl hpv, p, _, 6, _, rfl, rfl, SqL.of e1, rfl, ?_⟩
  have q := hw.bod
  have h0 := q.o0
  refine ⟨_, rfl, _, rfl, rfl, _, rfl, ite2 (fun z => ?_) (fun z => ?_)⟩
  · have z' : (bodF c s).owner = -1 := by
      have := of_decide_eq_true z
      simpa using this
    unfold butF at k
    rw [if_pos (by omega)] at k
    exact k
  · have z' : ¬ (bodF c s).owner < 0 := fun y => z (decide_eq_true (by rw [show (bodF c s).owner = -1 by omega]))
    exact ⟨_, rfl, A.d, _, rfl, hD.key doK_in, _, rfl, A.it, _, _, _, rfl, rfl, SqT.of hD.it, atI_of (j := (bodF c s).owner.toNat) (by omega) (by rw [List.getElem?_map, butF_in hw hc z']; rfl), k⟩
theorem scl_named : FnScope ["_law_doing_here", "_law_word_here", "_law_body_here"] ["_law_doing_here", "_law_word_here"] (defScope sl_named) := ⟨rfl, rfl, rfl, by decide +kernel, rfl, by decide +kernel, by decide +kernel⟩
theorem ok_l_named (T : Tx w K mg) : Cal P w K mg base "_law_named" 2 ["_law_doing_here", "_law_word_here"] spNamed := by
  obtain ⟨fd, F⟩ : ∃ fd, Fun K "_law_named" "_law_named" sl_named 924 fd := T.fn 92 _ rfl
  refine T.cal F 151 rfl (fun _ _ _ _ _ _ us hl => match us, hl with | [_, _], _ => rfl) ?_
  refine F.ok scl_named (fun vs H Q E h => ?_) (fun cdv A outer s H vs Q E hr h => ?_)
  · obtain ⟨A, c, s, f, w, rfl, _⟩ := h
    rfl
  obtain ⟨A, c, s, f, w, rfl, hD, hw, hc, hm, k⟩ := h
  have hu := hu_of hr
  refine ⟨_, (pss_cons (ps_set (i := 2) scl_named.nd rfl (Or.inl rfl) (pe_ix ix_list (pe_dget hu (pv 0) pe_str (fun _ _ => rfl)) (pe_dget hu (pv 0) pe_str (fun _ _ => rfl)) (fun _ _ => rfl)))
    (pss_cons (ps_if (pt_cmpR op_eq (pv 1) pe_str (nomark _)) (pss_one (ps_ret (pe_k (ok_l_buttons T) (hr.mono (by decide)) (pa_cons (pv 0) pa_nil)))) pss_nil)
    (pss_cons (ps_if (pt_cmpR op_in_seq (pv 1) (pe_tup (pa_cons pe_str (pa_cons pe_str (pa_cons pe_str pa_nil)))) (by rfl)) (pss_one (ps_ret (pe_dget hu (pv 0) (pv 1) (fun _ _ => rfl)))) pss_nil)
    (pss_cons (ps_if (pt_cmpR op_in_seq (pv 1) (pe_tup (pa_cons pe_str (pa_cons pe_str (pa_cons pe_str (pa_cons pe_str pa_nil))))) (by rfl)) (pss_one (ps_ret (pe_ix ix_tup (pe_ix ix_list (pv 2) pe_int (fun _ _ => rfl)) (pe_callTy call_int_str rfl (fr_int T) (by decide +kernel) (pa_cons (pe_ix ix_str (pv 1) pe_int (fun _ _ => rfl)) pa_nil)) (fun _ _ => rfl)))) pss_nil)
    (pss_cons (ps_if (pt_cmpR op_eq (pe_ix ix_str (pv 1) pe_int (fun _ _ => rfl)) pe_str (nomark _)) (pss_one (ps_ret (pe_ix ix_list (pe_dget hu (pv 0) pe_str (fun _ _ => rfl)) (pe_callTy call_int_str rfl (fr_int T) (by decide +kernel) (pa_cons (pe_ix ix_str (pv 1) pe_int (fun _ _ => rfl)) pa_nil)) (fun _ _ => rfl)))) pss_nil)
    (pss_one (ps_ret (pe_ix ix_list (pv 2) (pe_dget hu (pe_disp (pps_cons pe_str pe_int (pps_cons pe_str pe_int (pps_cons pe_str pe_int (pps_cons pe_str pe_int (pps_cons pe_str pe_int (pps_cons pe_str pe_int pps_nil)))))) (by rfl) (by rfl) (fun z => by cases z) (by decide)) (pv 1) (fun _ _ => rfl)) (fun _ _ => rfl))))))))), ?_⟩
  obtain ⟨p, cc, hp, hpv, e1, e2⟩ := hD.me hw
  refine ⟨_, rfl, A.d, _, rfl, hD.key doK_bo, _, rfl, A.d, _, rfl, hD.key doK_at, A.bo, _, _, _, rfl, rfl, SqL.of hD.bo, atI_of rfl hpv, ?_⟩
  have q := hw.bod
  have hcl := q.cl
  have hsl := hw.sh
  have gC : ∀ i : Nat, i < 4 → ((bodF c s).cells.map V.int)[i]? = some (.int ((bodF c s).cells.getD i 0)) := fun i hi => by
    rw [List.getElem?_map, List.getD_eq_getElem?_getD, List.getElem?_eq_getElem (by omega)]
    rfl
  have gS : ∀ i : Nat, i < 8 → (s.sh.map V.int)[i]? = some (.int (s.sh.getD i 0)) := fun i hi => by
    rw [List.getElem?_map, List.getD_eq_getElem?_getD, List.getElem?_eq_getElem (by omega)]
    rfl
  simp only [Nm.all, List.mem_cons, List.not_mem_nil, or_false] at hm
  rcases hm with rfl | rfl | rfl | rfl | rfl | rfl | rfl | rfl | rfl | rfl | rfl | rfl | rfl | rfl | rfl | rfl | rfl | rfl | rfl | rfl | rfl | rfl
  · -- x
    refine ⟨_, rfl, rfl, _, rfl, hit (fun c => absurd c (by decide +kernel)) (fun _ => ⟨_, rfl, (by show 3 ≤ sizeLine; decide), fun t1 n1 => ?_⟩)⟩
    have k1 : Kp M0 H (upd H t1 (.tup [.str "tick", .str "other", .str "side"])) := Kp.new n1
    have hD1 := hD.kp0 k1
    refine ⟨t1, _, rfl, .inr (SqT.of upd_same), rfl, rfl, _, rfl, hit (fun c => absurd c (by decide +kernel)) (fun _ => ⟨_, rfl, (by show 4 ≤ sizeLine; decide), fun t2 n2 => ?_⟩)⟩
    have k2 : Kp M0 (upd H t1 (.tup [.str "tick", .str "other", .str "side"])) (upd (upd H t1 (.tup [.str "tick", .str "other", .str "side"])) t2 (.tup [.str "c0", .str "c1", .str "c2", .str "c3"])) := Kp.new n2
    have k12 := k1.trans k2
    have hD2 := hD.kp0 k12
    have e1' := k12.keep _ _ e1 id
    have e2' := k12.tup _ _ e2
    refine ⟨t2, _, rfl, .inr (SqT.of upd_same), rfl, rfl, _, rfl, hit (fun c => absurd c (by decide +kernel)) (fun _ => ⟨_, rfl, _, 0, _, rfl, rfl, (by decide +kernel), (by rfl), rfl, _, rfl, ?_⟩)⟩
    refine hit (fun c => absurd c (by decide +kernel)) (fun _ => ⟨_, rfl, fun dp ndp => ⟨upd_same, [(Sum.inr "id", .int 0), (Sum.inr "x", .int 2), (Sum.inr "y", .int 3), (Sum.inr "dx", .int 4), (Sum.inr "dy", .int 5), (Sum.inr "owner", .int 6)], rfl, (by show 6 ≤ 15; decide), _, rfl, dp, .int 2, rfl, .inl ⟨_, Sum.inr "x", .inl upd_same, rfl, rfl⟩, p, blV (bodF c s) cc, 2, _, rfl, rfl, SqL.of ?_, rfl, k _ ?_⟩⟩)
    · rw [upd_upd, upd_ne (ne_of_none e1' ndp)]
      exact e1'
    · rw [upd_upd]
      exact k12.trans (Kp.new ndp)
  · -- y
    refine ⟨_, rfl, rfl, _, rfl, hit (fun c => absurd c (by decide +kernel)) (fun _ => ⟨_, rfl, (by show 3 ≤ sizeLine; decide), fun t1 n1 => ?_⟩)⟩
    have k1 : Kp M0 H (upd H t1 (.tup [.str "tick", .str "other", .str "side"])) := Kp.new n1
    have hD1 := hD.kp0 k1
    refine ⟨t1, _, rfl, .inr (SqT.of upd_same), rfl, rfl, _, rfl, hit (fun c => absurd c (by decide +kernel)) (fun _ => ⟨_, rfl, (by show 4 ≤ sizeLine; decide), fun t2 n2 => ?_⟩)⟩
    have k2 : Kp M0 (upd H t1 (.tup [.str "tick", .str "other", .str "side"])) (upd (upd H t1 (.tup [.str "tick", .str "other", .str "side"])) t2 (.tup [.str "c0", .str "c1", .str "c2", .str "c3"])) := Kp.new n2
    have k12 := k1.trans k2
    have hD2 := hD.kp0 k12
    have e1' := k12.keep _ _ e1 id
    have e2' := k12.tup _ _ e2
    refine ⟨t2, _, rfl, .inr (SqT.of upd_same), rfl, rfl, _, rfl, hit (fun c => absurd c (by decide +kernel)) (fun _ => ⟨_, rfl, _, 0, _, rfl, rfl, (by decide +kernel), (by rfl), rfl, _, rfl, ?_⟩)⟩
    refine hit (fun c => absurd c (by decide +kernel)) (fun _ => ⟨_, rfl, fun dp ndp => ⟨upd_same, [(Sum.inr "id", .int 0), (Sum.inr "x", .int 2), (Sum.inr "y", .int 3), (Sum.inr "dx", .int 4), (Sum.inr "dy", .int 5), (Sum.inr "owner", .int 6)], rfl, (by show 6 ≤ 15; decide), _, rfl, dp, .int 3, rfl, .inl ⟨_, Sum.inr "y", .inl upd_same, rfl, rfl⟩, p, blV (bodF c s) cc, 3, _, rfl, rfl, SqL.of ?_, rfl, k _ ?_⟩⟩)
    · rw [upd_upd, upd_ne (ne_of_none e1' ndp)]
      exact e1'
    · rw [upd_upd]
      exact k12.trans (Kp.new ndp)
  · -- dx
    refine ⟨_, rfl, rfl, _, rfl, hit (fun c => absurd c (by decide +kernel)) (fun _ => ⟨_, rfl, (by show 3 ≤ sizeLine; decide), fun t1 n1 => ?_⟩)⟩
    have k1 : Kp M0 H (upd H t1 (.tup [.str "tick", .str "other", .str "side"])) := Kp.new n1
    have hD1 := hD.kp0 k1
    refine ⟨t1, _, rfl, .inr (SqT.of upd_same), rfl, rfl, _, rfl, hit (fun c => absurd c (by decide +kernel)) (fun _ => ⟨_, rfl, (by show 4 ≤ sizeLine; decide), fun t2 n2 => ?_⟩)⟩
    have k2 : Kp M0 (upd H t1 (.tup [.str "tick", .str "other", .str "side"])) (upd (upd H t1 (.tup [.str "tick", .str "other", .str "side"])) t2 (.tup [.str "c0", .str "c1", .str "c2", .str "c3"])) := Kp.new n2
    have k12 := k1.trans k2
    have hD2 := hD.kp0 k12
    have e1' := k12.keep _ _ e1 id
    have e2' := k12.tup _ _ e2
    refine ⟨t2, _, rfl, .inr (SqT.of upd_same), rfl, rfl, _, rfl, hit (fun c => absurd c (by decide +kernel)) (fun _ => ⟨_, rfl, _, 0, _, rfl, rfl, (by decide +kernel), (by rfl), rfl, _, rfl, ?_⟩)⟩
    refine hit (fun c => absurd c (by decide +kernel)) (fun _ => ⟨_, rfl, fun dp ndp => ⟨upd_same, [(Sum.inr "id", .int 0), (Sum.inr "x", .int 2), (Sum.inr "y", .int 3), (Sum.inr "dx", .int 4), (Sum.inr "dy", .int 5), (Sum.inr "owner", .int 6)], rfl, (by show 6 ≤ 15; decide), _, rfl, dp, .int 4, rfl, .inl ⟨_, Sum.inr "dx", .inl upd_same, rfl, rfl⟩, p, blV (bodF c s) cc, 4, _, rfl, rfl, SqL.of ?_, rfl, k _ ?_⟩⟩)
    · rw [upd_upd, upd_ne (ne_of_none e1' ndp)]
      exact e1'
    · rw [upd_upd]
      exact k12.trans (Kp.new ndp)
  · -- dy
    refine ⟨_, rfl, rfl, _, rfl, hit (fun c => absurd c (by decide +kernel)) (fun _ => ⟨_, rfl, (by show 3 ≤ sizeLine; decide), fun t1 n1 => ?_⟩)⟩
    have k1 : Kp M0 H (upd H t1 (.tup [.str "tick", .str "other", .str "side"])) := Kp.new n1
    have hD1 := hD.kp0 k1
    refine ⟨t1, _, rfl, .inr (SqT.of upd_same), rfl, rfl, _, rfl, hit (fun c => absurd c (by decide +kernel)) (fun _ => ⟨_, rfl, (by show 4 ≤ sizeLine; decide), fun t2 n2 => ?_⟩)⟩
    have k2 : Kp M0 (upd H t1 (.tup [.str "tick", .str "other", .str "side"])) (upd (upd H t1 (.tup [.str "tick", .str "other", .str "side"])) t2 (.tup [.str "c0", .str "c1", .str "c2", .str "c3"])) := Kp.new n2
    have k12 := k1.trans k2
    have hD2 := hD.kp0 k12
    have e1' := k12.keep _ _ e1 id
    have e2' := k12.tup _ _ e2
    refine ⟨t2, _, rfl, .inr (SqT.of upd_same), rfl, rfl, _, rfl, hit (fun c => absurd c (by decide +kernel)) (fun _ => ⟨_, rfl, _, 0, _, rfl, rfl, (by decide +kernel), (by rfl), rfl, _, rfl, ?_⟩)⟩
    refine hit (fun c => absurd c (by decide +kernel)) (fun _ => ⟨_, rfl, fun dp ndp => ⟨upd_same, [(Sum.inr "id", .int 0), (Sum.inr "x", .int 2), (Sum.inr "y", .int 3), (Sum.inr "dx", .int 4), (Sum.inr "dy", .int 5), (Sum.inr "owner", .int 6)], rfl, (by show 6 ≤ 15; decide), _, rfl, dp, .int 5, rfl, .inl ⟨_, Sum.inr "dy", .inl upd_same, rfl, rfl⟩, p, blV (bodF c s) cc, 5, _, rfl, rfl, SqL.of ?_, rfl, k _ ?_⟩⟩)
    · rw [upd_upd, upd_ne (ne_of_none e1' ndp)]
      exact e1'
    · rw [upd_upd]
      exact k12.trans (Kp.new ndp)
  · -- tick
    refine ⟨_, rfl, rfl, _, rfl, hit (fun c => absurd c (by decide +kernel)) (fun _ => ⟨_, rfl, (by show 3 ≤ sizeLine; decide), fun t1 n1 => ?_⟩)⟩
    have k1 : Kp M0 H (upd H t1 (.tup [.str "tick", .str "other", .str "side"])) := Kp.new n1
    have hD1 := hD.kp0 k1
    exact ⟨t1, _, rfl, .inr (SqT.of upd_same), rfl, rfl, _, rfl, hit (fun _ => ⟨_, rfl, _, rfl, A.d, _, rfl, hD1.key doK_tick, k _ k1⟩) (fun c => absurd c (by decide +kernel))⟩
  · -- id
    refine ⟨_, rfl, rfl, _, rfl, hit (fun c => absurd c (by decide +kernel)) (fun _ => ⟨_, rfl, (by show 3 ≤ sizeLine; decide), fun t1 n1 => ?_⟩)⟩
    have k1 : Kp M0 H (upd H t1 (.tup [.str "tick", .str "other", .str "side"])) := Kp.new n1
    have hD1 := hD.kp0 k1
    refine ⟨t1, _, rfl, .inr (SqT.of upd_same), rfl, rfl, _, rfl, hit (fun c => absurd c (by decide +kernel)) (fun _ => ⟨_, rfl, (by show 4 ≤ sizeLine; decide), fun t2 n2 => ?_⟩)⟩
    have k2 : Kp M0 (upd H t1 (.tup [.str "tick", .str "other", .str "side"])) (upd (upd H t1 (.tup [.str "tick", .str "other", .str "side"])) t2 (.tup [.str "c0", .str "c1", .str "c2", .str "c3"])) := Kp.new n2
    have k12 := k1.trans k2
    have hD2 := hD.kp0 k12
    have e1' := k12.keep _ _ e1 id
    have e2' := k12.tup _ _ e2
    refine ⟨t2, _, rfl, .inr (SqT.of upd_same), rfl, rfl, _, rfl, hit (fun c => absurd c (by decide +kernel)) (fun _ => ⟨_, rfl, _, 0, _, rfl, rfl, (by decide +kernel), (by rfl), rfl, _, rfl, ?_⟩)⟩
    refine hit (fun c => absurd c (by decide +kernel)) (fun _ => ⟨_, rfl, fun dp ndp => ⟨upd_same, [(Sum.inr "id", .int 0), (Sum.inr "x", .int 2), (Sum.inr "y", .int 3), (Sum.inr "dx", .int 4), (Sum.inr "dy", .int 5), (Sum.inr "owner", .int 6)], rfl, (by show 6 ≤ 15; decide), _, rfl, dp, .int 0, rfl, .inl ⟨_, Sum.inr "id", .inl upd_same, rfl, rfl⟩, p, blV (bodF c s) cc, 0, _, rfl, rfl, SqL.of ?_, rfl, k _ ?_⟩⟩)
    · rw [upd_upd, upd_ne (ne_of_none e1' ndp)]
      exact e1'
    · rw [upd_upd]
      exact k12.trans (Kp.new ndp)
  · -- owner
    refine ⟨_, rfl, rfl, _, rfl, hit (fun c => absurd c (by decide +kernel)) (fun _ => ⟨_, rfl, (by show 3 ≤ sizeLine; decide), fun t1 n1 => ?_⟩)⟩
    have k1 : Kp M0 H (upd H t1 (.tup [.str "tick", .str "other", .str "side"])) := Kp.new n1
    have hD1 := hD.kp0 k1
    refine ⟨t1, _, rfl, .inr (SqT.of upd_same), rfl, rfl, _, rfl, hit (fun c => absurd c (by decide +kernel)) (fun _ => ⟨_, rfl, (by show 4 ≤ sizeLine; decide), fun t2 n2 => ?_⟩)⟩
    have k2 : Kp M0 (upd H t1 (.tup [.str "tick", .str "other", .str "side"])) (upd (upd H t1 (.tup [.str "tick", .str "other", .str "side"])) t2 (.tup [.str "c0", .str "c1", .str "c2", .str "c3"])) := Kp.new n2
    have k12 := k1.trans k2
    have hD2 := hD.kp0 k12
    have e1' := k12.keep _ _ e1 id
    have e2' := k12.tup _ _ e2
    refine ⟨t2, _, rfl, .inr (SqT.of upd_same), rfl, rfl, _, rfl, hit (fun c => absurd c (by decide +kernel)) (fun _ => ⟨_, rfl, _, 0, _, rfl, rfl, (by decide +kernel), (by rfl), rfl, _, rfl, ?_⟩)⟩
    refine hit (fun c => absurd c (by decide +kernel)) (fun _ => ⟨_, rfl, fun dp ndp => ⟨upd_same, [(Sum.inr "id", .int 0), (Sum.inr "x", .int 2), (Sum.inr "y", .int 3), (Sum.inr "dx", .int 4), (Sum.inr "dy", .int 5), (Sum.inr "owner", .int 6)], rfl, (by show 6 ≤ 15; decide), _, rfl, dp, .int 6, rfl, .inl ⟨_, Sum.inr "owner", .inl upd_same, rfl, rfl⟩, p, blV (bodF c s) cc, 6, _, rfl, rfl, SqL.of ?_, rfl, k _ ?_⟩⟩)
    · rw [upd_upd, upd_ne (ne_of_none e1' ndp)]
      exact e1'
    · rw [upd_upd]
      exact k12.trans (Kp.new ndp)
  · -- buttons
    exact ⟨_, rfl, rfl, _, rfl, hit (fun _ => ⟨_, rfl, A, c, s, f, rfl, hD, hw, hc, k _ Kp.rfl⟩) (fun c => absurd c (by decide +kernel))⟩
  · -- other
    refine ⟨_, rfl, rfl, _, rfl, hit (fun c => absurd c (by decide +kernel)) (fun _ => ⟨_, rfl, (by show 3 ≤ sizeLine; decide), fun t1 n1 => ?_⟩)⟩
    have k1 : Kp M0 H (upd H t1 (.tup [.str "tick", .str "other", .str "side"])) := Kp.new n1
    have hD1 := hD.kp0 k1
    exact ⟨t1, _, rfl, .inr (SqT.of upd_same), rfl, rfl, _, rfl, hit (fun _ => ⟨_, rfl, _, rfl, A.d, _, rfl, hD1.key doK_other, k _ k1⟩) (fun c => absurd c (by decide +kernel))⟩
  · -- side
    refine ⟨_, rfl, rfl, _, rfl, hit (fun c => absurd c (by decide +kernel)) (fun _ => ⟨_, rfl, (by show 3 ≤ sizeLine; decide), fun t1 n1 => ?_⟩)⟩
    have k1 : Kp M0 H (upd H t1 (.tup [.str "tick", .str "other", .str "side"])) := Kp.new n1
    have hD1 := hD.kp0 k1
    exact ⟨t1, _, rfl, .inr (SqT.of upd_same), rfl, rfl, _, rfl, hit (fun _ => ⟨_, rfl, _, rfl, A.d, _, rfl, hD1.key doK_side, k _ k1⟩) (fun c => absurd c (by decide +kernel))⟩
  · -- c0
    refine ⟨_, rfl, rfl, _, rfl, hit (fun c => absurd c (by decide +kernel)) (fun _ => ⟨_, rfl, (by show 3 ≤ sizeLine; decide), fun t1 n1 => ?_⟩)⟩
    have k1 : Kp M0 H (upd H t1 (.tup [.str "tick", .str "other", .str "side"])) := Kp.new n1
    have hD1 := hD.kp0 k1
    refine ⟨t1, _, rfl, .inr (SqT.of upd_same), rfl, rfl, _, rfl, hit (fun c => absurd c (by decide +kernel)) (fun _ => ⟨_, rfl, (by show 4 ≤ sizeLine; decide), fun t2 n2 => ?_⟩)⟩
    have k2 : Kp M0 (upd H t1 (.tup [.str "tick", .str "other", .str "side"])) (upd (upd H t1 (.tup [.str "tick", .str "other", .str "side"])) t2 (.tup [.str "c0", .str "c1", .str "c2", .str "c3"])) := Kp.new n2
    have k12 := k1.trans k2
    have hD2 := hD.kp0 k12
    have e1' := k12.keep _ _ e1 id
    have e2' := k12.tup _ _ e2
    exact ⟨t2, _, rfl, .inr (SqT.of upd_same), rfl, rfl, _, rfl, hit (fun _ => ⟨_, rfl, p, _, 7, _, rfl, rfl, SqL.of e1', rfl, _, rfl, _, 1, _, rfl, rfl, (by decide +kernel), (by rfl), _, 0, rfl, (by decide +kernel), (by decide +kernel), cc, _, _, _, rfl, rfl, SqT.of e2', atI_of (j := 0) rfl (gC 0 (by decide)), k _ k12⟩) (fun c => absurd c (by decide +kernel))⟩
  · -- c1
    refine ⟨_, rfl, rfl, _, rfl, hit (fun c => absurd c (by decide +kernel)) (fun _ => ⟨_, rfl, (by show 3 ≤ sizeLine; decide), fun t1 n1 => ?_⟩)⟩
    have k1 : Kp M0 H (upd H t1 (.tup [.str "tick", .str "other", .str "side"])) := Kp.new n1
    have hD1 := hD.kp0 k1
    refine ⟨t1, _, rfl, .inr (SqT.of upd_same), rfl, rfl, _, rfl, hit (fun c => absurd c (by decide +kernel)) (fun _ => ⟨_, rfl, (by show 4 ≤ sizeLine; decide), fun t2 n2 => ?_⟩)⟩
    have k2 : Kp M0 (upd H t1 (.tup [.str "tick", .str "other", .str "side"])) (upd (upd H t1 (.tup [.str "tick", .str "other", .str "side"])) t2 (.tup [.str "c0", .str "c1", .str "c2", .str "c3"])) := Kp.new n2
    have k12 := k1.trans k2
    have hD2 := hD.kp0 k12
    have e1' := k12.keep _ _ e1 id
    have e2' := k12.tup _ _ e2
    exact ⟨t2, _, rfl, .inr (SqT.of upd_same), rfl, rfl, _, rfl, hit (fun _ => ⟨_, rfl, p, _, 7, _, rfl, rfl, SqL.of e1', rfl, _, rfl, _, 1, _, rfl, rfl, (by decide +kernel), (by rfl), _, 1, rfl, (by decide +kernel), (by decide +kernel), cc, _, _, _, rfl, rfl, SqT.of e2', atI_of (j := 1) rfl (gC 1 (by decide)), k _ k12⟩) (fun c => absurd c (by decide +kernel))⟩
  · -- c2
    refine ⟨_, rfl, rfl, _, rfl, hit (fun c => absurd c (by decide +kernel)) (fun _ => ⟨_, rfl, (by show 3 ≤ sizeLine; decide), fun t1 n1 => ?_⟩)⟩
    have k1 : Kp M0 H (upd H t1 (.tup [.str "tick", .str "other", .str "side"])) := Kp.new n1
    have hD1 := hD.kp0 k1
    refine ⟨t1, _, rfl, .inr (SqT.of upd_same), rfl, rfl, _, rfl, hit (fun c => absurd c (by decide +kernel)) (fun _ => ⟨_, rfl, (by show 4 ≤ sizeLine; decide), fun t2 n2 => ?_⟩)⟩
    have k2 : Kp M0 (upd H t1 (.tup [.str "tick", .str "other", .str "side"])) (upd (upd H t1 (.tup [.str "tick", .str "other", .str "side"])) t2 (.tup [.str "c0", .str "c1", .str "c2", .str "c3"])) := Kp.new n2
    have k12 := k1.trans k2
    have hD2 := hD.kp0 k12
    have e1' := k12.keep _ _ e1 id
    have e2' := k12.tup _ _ e2
    exact ⟨t2, _, rfl, .inr (SqT.of upd_same), rfl, rfl, _, rfl, hit (fun _ => ⟨_, rfl, p, _, 7, _, rfl, rfl, SqL.of e1', rfl, _, rfl, _, 1, _, rfl, rfl, (by decide +kernel), (by rfl), _, 2, rfl, (by decide +kernel), (by decide +kernel), cc, _, _, _, rfl, rfl, SqT.of e2', atI_of (j := 2) rfl (gC 2 (by decide)), k _ k12⟩) (fun c => absurd c (by decide +kernel))⟩
  · -- c3
    refine ⟨_, rfl, rfl, _, rfl, hit (fun c => absurd c (by decide +kernel)) (fun _ => ⟨_, rfl, (by show 3 ≤ sizeLine; decide), fun t1 n1 => ?_⟩)⟩
    have k1 : Kp M0 H (upd H t1 (.tup [.str "tick", .str "other", .str "side"])) := Kp.new n1
    have hD1 := hD.kp0 k1
    refine ⟨t1, _, rfl, .inr (SqT.of upd_same), rfl, rfl, _, rfl, hit (fun c => absurd c (by decide +kernel)) (fun _ => ⟨_, rfl, (by show 4 ≤ sizeLine; decide), fun t2 n2 => ?_⟩)⟩
    have k2 : Kp M0 (upd H t1 (.tup [.str "tick", .str "other", .str "side"])) (upd (upd H t1 (.tup [.str "tick", .str "other", .str "side"])) t2 (.tup [.str "c0", .str "c1", .str "c2", .str "c3"])) := Kp.new n2
    have k12 := k1.trans k2
    have hD2 := hD.kp0 k12
    have e1' := k12.keep _ _ e1 id
    have e2' := k12.tup _ _ e2
    exact ⟨t2, _, rfl, .inr (SqT.of upd_same), rfl, rfl, _, rfl, hit (fun _ => ⟨_, rfl, p, _, 7, _, rfl, rfl, SqL.of e1', rfl, _, rfl, _, 1, _, rfl, rfl, (by decide +kernel), (by rfl), _, 3, rfl, (by decide +kernel), (by decide +kernel), cc, _, _, _, rfl, rfl, SqT.of e2', atI_of (j := 3) rfl (gC 3 (by decide)), k _ k12⟩) (fun c => absurd c (by decide +kernel))⟩
  · -- s0
    refine ⟨_, rfl, rfl, _, rfl, hit (fun c => absurd c (by decide +kernel)) (fun _ => ⟨_, rfl, (by show 3 ≤ sizeLine; decide), fun t1 n1 => ?_⟩)⟩
    have k1 : Kp M0 H (upd H t1 (.tup [.str "tick", .str "other", .str "side"])) := Kp.new n1
    have hD1 := hD.kp0 k1
    refine ⟨t1, _, rfl, .inr (SqT.of upd_same), rfl, rfl, _, rfl, hit (fun c => absurd c (by decide +kernel)) (fun _ => ⟨_, rfl, (by show 4 ≤ sizeLine; decide), fun t2 n2 => ?_⟩)⟩
    have k2 : Kp M0 (upd H t1 (.tup [.str "tick", .str "other", .str "side"])) (upd (upd H t1 (.tup [.str "tick", .str "other", .str "side"])) t2 (.tup [.str "c0", .str "c1", .str "c2", .str "c3"])) := Kp.new n2
    have k12 := k1.trans k2
    have hD2 := hD.kp0 k12
    have e1' := k12.keep _ _ e1 id
    have e2' := k12.tup _ _ e2
    refine ⟨t2, _, rfl, .inr (SqT.of upd_same), rfl, rfl, _, rfl, hit (fun c => absurd c (by decide +kernel)) (fun _ => ⟨_, rfl, _, 0, _, rfl, rfl, (by decide +kernel), (by rfl), rfl, _, rfl, ?_⟩)⟩
    exact hit (fun _ => ⟨_, rfl, A.d, _, rfl, hD2.key doK_sh, _, rfl, _, 1, _, rfl, rfl, (by decide +kernel), (by rfl), _, 0, rfl, (by decide +kernel), (by decide +kernel), A.sh, _, _, _, rfl, rfl, SqL.of hD2.sh, atI_of (j := 0) rfl (gS 0 (by decide)), k _ k12⟩) (fun c => absurd c (by decide +kernel))
  · -- s1
    refine ⟨_, rfl, rfl, _, rfl, hit (fun c => absurd c (by decide +kernel)) (fun _ => ⟨_, rfl, (by show 3 ≤ sizeLine; decide), fun t1 n1 => ?_⟩)⟩
    have k1 : Kp M0 H (upd H t1 (.tup [.str "tick", .str "other", .str "side"])) := Kp.new n1
    have hD1 := hD.kp0 k1
    refine ⟨t1, _, rfl, .inr (SqT.of upd_same), rfl, rfl, _, rfl, hit (fun c => absurd c (by decide +kernel)) (fun _ => ⟨_, rfl, (by show 4 ≤ sizeLine; decide), fun t2 n2 => ?_⟩)⟩
    have k2 : Kp M0 (upd H t1 (.tup [.str "tick", .str "other", .str "side"])) (upd (upd H t1 (.tup [.str "tick", .str "other", .str "side"])) t2 (.tup [.str "c0", .str "c1", .str "c2", .str "c3"])) := Kp.new n2
    have k12 := k1.trans k2
    have hD2 := hD.kp0 k12
    have e1' := k12.keep _ _ e1 id
    have e2' := k12.tup _ _ e2
    refine ⟨t2, _, rfl, .inr (SqT.of upd_same), rfl, rfl, _, rfl, hit (fun c => absurd c (by decide +kernel)) (fun _ => ⟨_, rfl, _, 0, _, rfl, rfl, (by decide +kernel), (by rfl), rfl, _, rfl, ?_⟩)⟩
    exact hit (fun _ => ⟨_, rfl, A.d, _, rfl, hD2.key doK_sh, _, rfl, _, 1, _, rfl, rfl, (by decide +kernel), (by rfl), _, 1, rfl, (by decide +kernel), (by decide +kernel), A.sh, _, _, _, rfl, rfl, SqL.of hD2.sh, atI_of (j := 1) rfl (gS 1 (by decide)), k _ k12⟩) (fun c => absurd c (by decide +kernel))
  · -- s2
    refine ⟨_, rfl, rfl, _, rfl, hit (fun c => absurd c (by decide +kernel)) (fun _ => ⟨_, rfl, (by show 3 ≤ sizeLine; decide), fun t1 n1 => ?_⟩)⟩
    have k1 : Kp M0 H (upd H t1 (.tup [.str "tick", .str "other", .str "side"])) := Kp.new n1
    have hD1 := hD.kp0 k1
    refine ⟨t1, _, rfl, .inr (SqT.of upd_same), rfl, rfl, _, rfl, hit (fun c => absurd c (by decide +kernel)) (fun _ => ⟨_, rfl, (by show 4 ≤ sizeLine; decide), fun t2 n2 => ?_⟩)⟩
    have k2 : Kp M0 (upd H t1 (.tup [.str "tick", .str "other", .str "side"])) (upd (upd H t1 (.tup [.str "tick", .str "other", .str "side"])) t2 (.tup [.str "c0", .str "c1", .str "c2", .str "c3"])) := Kp.new n2
    have k12 := k1.trans k2
    have hD2 := hD.kp0 k12
    have e1' := k12.keep _ _ e1 id
    have e2' := k12.tup _ _ e2
    refine ⟨t2, _, rfl, .inr (SqT.of upd_same), rfl, rfl, _, rfl, hit (fun c => absurd c (by decide +kernel)) (fun _ => ⟨_, rfl, _, 0, _, rfl, rfl, (by decide +kernel), (by rfl), rfl, _, rfl, ?_⟩)⟩
    exact hit (fun _ => ⟨_, rfl, A.d, _, rfl, hD2.key doK_sh, _, rfl, _, 1, _, rfl, rfl, (by decide +kernel), (by rfl), _, 2, rfl, (by decide +kernel), (by decide +kernel), A.sh, _, _, _, rfl, rfl, SqL.of hD2.sh, atI_of (j := 2) rfl (gS 2 (by decide)), k _ k12⟩) (fun c => absurd c (by decide +kernel))
  · -- s3
    refine ⟨_, rfl, rfl, _, rfl, hit (fun c => absurd c (by decide +kernel)) (fun _ => ⟨_, rfl, (by show 3 ≤ sizeLine; decide), fun t1 n1 => ?_⟩)⟩
    have k1 : Kp M0 H (upd H t1 (.tup [.str "tick", .str "other", .str "side"])) := Kp.new n1
    have hD1 := hD.kp0 k1
    refine ⟨t1, _, rfl, .inr (SqT.of upd_same), rfl, rfl, _, rfl, hit (fun c => absurd c (by decide +kernel)) (fun _ => ⟨_, rfl, (by show 4 ≤ sizeLine; decide), fun t2 n2 => ?_⟩)⟩
    have k2 : Kp M0 (upd H t1 (.tup [.str "tick", .str "other", .str "side"])) (upd (upd H t1 (.tup [.str "tick", .str "other", .str "side"])) t2 (.tup [.str "c0", .str "c1", .str "c2", .str "c3"])) := Kp.new n2
    have k12 := k1.trans k2
    have hD2 := hD.kp0 k12
    have e1' := k12.keep _ _ e1 id
    have e2' := k12.tup _ _ e2
    refine ⟨t2, _, rfl, .inr (SqT.of upd_same), rfl, rfl, _, rfl, hit (fun c => absurd c (by decide +kernel)) (fun _ => ⟨_, rfl, _, 0, _, rfl, rfl, (by decide +kernel), (by rfl), rfl, _, rfl, ?_⟩)⟩
    exact hit (fun _ => ⟨_, rfl, A.d, _, rfl, hD2.key doK_sh, _, rfl, _, 1, _, rfl, rfl, (by decide +kernel), (by rfl), _, 3, rfl, (by decide +kernel), (by decide +kernel), A.sh, _, _, _, rfl, rfl, SqL.of hD2.sh, atI_of (j := 3) rfl (gS 3 (by decide)), k _ k12⟩) (fun c => absurd c (by decide +kernel))
  · -- s4
    refine ⟨_, rfl, rfl, _, rfl, hit (fun c => absurd c (by decide +kernel)) (fun _ => ⟨_, rfl, (by show 3 ≤ sizeLine; decide), fun t1 n1 => ?_⟩)⟩
    have k1 : Kp M0 H (upd H t1 (.tup [.str "tick", .str "other", .str "side"])) := Kp.new n1
    have hD1 := hD.kp0 k1
    refine ⟨t1, _, rfl, .inr (SqT.of upd_same), rfl, rfl, _, rfl, hit (fun c => absurd c (by decide +kernel)) (fun _ => ⟨_, rfl, (by show 4 ≤ sizeLine; decide), fun t2 n2 => ?_⟩)⟩
    have k2 : Kp M0 (upd H t1 (.tup [.str "tick", .str "other", .str "side"])) (upd (upd H t1 (.tup [.str "tick", .str "other", .str "side"])) t2 (.tup [.str "c0", .str "c1", .str "c2", .str "c3"])) := Kp.new n2
    have k12 := k1.trans k2
    have hD2 := hD.kp0 k12
    have e1' := k12.keep _ _ e1 id
    have e2' := k12.tup _ _ e2
    refine ⟨t2, _, rfl, .inr (SqT.of upd_same), rfl, rfl, _, rfl, hit (fun c => absurd c (by decide +kernel)) (fun _ => ⟨_, rfl, _, 0, _, rfl, rfl, (by decide +kernel), (by rfl), rfl, _, rfl, ?_⟩)⟩
    exact hit (fun _ => ⟨_, rfl, A.d, _, rfl, hD2.key doK_sh, _, rfl, _, 1, _, rfl, rfl, (by decide +kernel), (by rfl), _, 4, rfl, (by decide +kernel), (by decide +kernel), A.sh, _, _, _, rfl, rfl, SqL.of hD2.sh, atI_of (j := 4) rfl (gS 4 (by decide)), k _ k12⟩) (fun c => absurd c (by decide +kernel))
  · -- s5
    refine ⟨_, rfl, rfl, _, rfl, hit (fun c => absurd c (by decide +kernel)) (fun _ => ⟨_, rfl, (by show 3 ≤ sizeLine; decide), fun t1 n1 => ?_⟩)⟩
    have k1 : Kp M0 H (upd H t1 (.tup [.str "tick", .str "other", .str "side"])) := Kp.new n1
    have hD1 := hD.kp0 k1
    refine ⟨t1, _, rfl, .inr (SqT.of upd_same), rfl, rfl, _, rfl, hit (fun c => absurd c (by decide +kernel)) (fun _ => ⟨_, rfl, (by show 4 ≤ sizeLine; decide), fun t2 n2 => ?_⟩)⟩
    have k2 : Kp M0 (upd H t1 (.tup [.str "tick", .str "other", .str "side"])) (upd (upd H t1 (.tup [.str "tick", .str "other", .str "side"])) t2 (.tup [.str "c0", .str "c1", .str "c2", .str "c3"])) := Kp.new n2
    have k12 := k1.trans k2
    have hD2 := hD.kp0 k12
    have e1' := k12.keep _ _ e1 id
    have e2' := k12.tup _ _ e2
    refine ⟨t2, _, rfl, .inr (SqT.of upd_same), rfl, rfl, _, rfl, hit (fun c => absurd c (by decide +kernel)) (fun _ => ⟨_, rfl, _, 0, _, rfl, rfl, (by decide +kernel), (by rfl), rfl, _, rfl, ?_⟩)⟩
    exact hit (fun _ => ⟨_, rfl, A.d, _, rfl, hD2.key doK_sh, _, rfl, _, 1, _, rfl, rfl, (by decide +kernel), (by rfl), _, 5, rfl, (by decide +kernel), (by decide +kernel), A.sh, _, _, _, rfl, rfl, SqL.of hD2.sh, atI_of (j := 5) rfl (gS 5 (by decide)), k _ k12⟩) (fun c => absurd c (by decide +kernel))
  · -- s6
    refine ⟨_, rfl, rfl, _, rfl, hit (fun c => absurd c (by decide +kernel)) (fun _ => ⟨_, rfl, (by show 3 ≤ sizeLine; decide), fun t1 n1 => ?_⟩)⟩
    have k1 : Kp M0 H (upd H t1 (.tup [.str "tick", .str "other", .str "side"])) := Kp.new n1
    have hD1 := hD.kp0 k1
    refine ⟨t1, _, rfl, .inr (SqT.of upd_same), rfl, rfl, _, rfl, hit (fun c => absurd c (by decide +kernel)) (fun _ => ⟨_, rfl, (by show 4 ≤ sizeLine; decide), fun t2 n2 => ?_⟩)⟩
    have k2 : Kp M0 (upd H t1 (.tup [.str "tick", .str "other", .str "side"])) (upd (upd H t1 (.tup [.str "tick", .str "other", .str "side"])) t2 (.tup [.str "c0", .str "c1", .str "c2", .str "c3"])) := Kp.new n2
    have k12 := k1.trans k2
    have hD2 := hD.kp0 k12
    have e1' := k12.keep _ _ e1 id
    have e2' := k12.tup _ _ e2
    refine ⟨t2, _, rfl, .inr (SqT.of upd_same), rfl, rfl, _, rfl, hit (fun c => absurd c (by decide +kernel)) (fun _ => ⟨_, rfl, _, 0, _, rfl, rfl, (by decide +kernel), (by rfl), rfl, _, rfl, ?_⟩)⟩
    exact hit (fun _ => ⟨_, rfl, A.d, _, rfl, hD2.key doK_sh, _, rfl, _, 1, _, rfl, rfl, (by decide +kernel), (by rfl), _, 6, rfl, (by decide +kernel), (by decide +kernel), A.sh, _, _, _, rfl, rfl, SqL.of hD2.sh, atI_of (j := 6) rfl (gS 6 (by decide)), k _ k12⟩) (fun c => absurd c (by decide +kernel))
  · -- s7
    refine ⟨_, rfl, rfl, _, rfl, hit (fun c => absurd c (by decide +kernel)) (fun _ => ⟨_, rfl, (by show 3 ≤ sizeLine; decide), fun t1 n1 => ?_⟩)⟩
    have k1 : Kp M0 H (upd H t1 (.tup [.str "tick", .str "other", .str "side"])) := Kp.new n1
    have hD1 := hD.kp0 k1
    refine ⟨t1, _, rfl, .inr (SqT.of upd_same), rfl, rfl, _, rfl, hit (fun c => absurd c (by decide +kernel)) (fun _ => ⟨_, rfl, (by show 4 ≤ sizeLine; decide), fun t2 n2 => ?_⟩)⟩
    have k2 : Kp M0 (upd H t1 (.tup [.str "tick", .str "other", .str "side"])) (upd (upd H t1 (.tup [.str "tick", .str "other", .str "side"])) t2 (.tup [.str "c0", .str "c1", .str "c2", .str "c3"])) := Kp.new n2
    have k12 := k1.trans k2
    have hD2 := hD.kp0 k12
    have e1' := k12.keep _ _ e1 id
    have e2' := k12.tup _ _ e2
    refine ⟨t2, _, rfl, .inr (SqT.of upd_same), rfl, rfl, _, rfl, hit (fun c => absurd c (by decide +kernel)) (fun _ => ⟨_, rfl, _, 0, _, rfl, rfl, (by decide +kernel), (by rfl), rfl, _, rfl, ?_⟩)⟩
    exact hit (fun _ => ⟨_, rfl, A.d, _, rfl, hD2.key doK_sh, _, rfl, _, 1, _, rfl, rfl, (by decide +kernel), (by rfl), _, 7, rfl, (by decide +kernel), (by decide +kernel), A.sh, _, _, _, rfl, rfl, SqL.of hD2.sh, atI_of (j := 7) rfl (gS 7 (by decide)), k _ k12⟩) (fun c => absurd c (by decide +kernel))
end
end G
set_option Elab.async false
set_option linter.all false
set_option maxRecDepth 100000
set_option maxHeartbeats 4000000
namespace G
open PySem PySem.Spec PyProof.Rows L2
def spTold : Sp := fun vs H Q _ => ∃ (A : LA) (c : Cfg) (s : S) (f : Int) (w : W1) (n : Int), vs = [.ref A.d, .str w.str, .int n] ∧ LD H A c s f ∧ (w = .kind ∨ w = .left ∨ w = .top) ∧ ∀ H', Kp M0 H H' → Q (.int (toldF s w n)) H'
def spOne : Sp := fun vs H Q _ => ∃ (A : LA) (c : Cfg) (s : S) (f : Int) (w : W1) (v : Int), vs = [.ref A.d, .str w.str, .int v] ∧ LD H A c s f ∧ WfS c s ∧ WfC c ∧ Sml v ∧ ∀ H', Kp (Md A) H H' → LD H' A c (oneF c s w v).2 f → Q (.int (oneF c s w v).1) H'
def spTwo : Sp := fun vs H Q _ => ∃ (A : LA) (c : Cfg) (s : S) (f : Int) (w : W2) (a b : Int), vs = [.ref A.d, .str w.str, .int a, .int b] ∧ LD H A c s f ∧ WfC c ∧ Sml a ∧ Sml b ∧ Q (.int (twoF c w a b)) H
theorem wrap_id {n : Int} (h : Sml n) : wrapF n = n := by
  unfold Sml at h
  unfold wrapF
  omega
theorem find_at {l : List Bod} {n : Int} {i : Nat} {b : Bod} (e : l[i]? = some b) (hb : b.num = n) (hn : ∀ x ∈ l.take i, x.num ≠ n) : l.find? (fun b => decide (b.num = n)) = some b := by
  rw [List.find?_eq_some_iff_append]
  refine ⟨decide_eq_true hb, l.take i, l.drop (i + 1), ?_, fun x hx => ?_⟩
  · have h := (List.getElem?_eq_some_iff.mp e)
    obtain ⟨hi, hv⟩ := h
    rw [← hv, ← List.drop_eq_getElem_cons hi, List.take_append_drop]
  · simp [hn x hx]
theorem find_no {l : List Bod} {n : Int} (hn : ∀ x ∈ l, x.num ≠ n) : l.find? (fun b => decide (b.num = n)) = none := by
  rw [List.find?_eq_none]
  intro x hx
  simp [hn x hx]
theorem told_sml {c : Cfg} {s : S} (w : WfS c s) (k : WfC c) (u : W1) (n : Int) : Sml (toldF s u n) := by
  unfold toldF
  cases q : s.bs.find? (fun b => decide (b.num = n)) with
  | none =>
    show Sml (if u = .kind then -1 else 0)
    split <;> (unfold Sml; decide)
  | some b =>
    have hb := w.bs.all b (List.mem_of_find?_eq_some q)
    have h1 := hb.k0
    have h2 := hb.k1
    have h3 := k.nk
    have h4 := hb.x0
    have h5 := hb.x1
    have h6 := hb.y0
    have h7 := hb.y1
    show Sml (if u = .kind then b.kind else if u = .left then b.x else b.y)
    unfold Sml
    split
    · omega
    · split <;> omega
theorem pow8 {m : Nat} (h : m < 8) : ([.int 1, .int 2, .int 4, .int 8, .int 16, .int 32, .int 64, .int 128] : List V)[m]? = some (.int (2 ^ m)) ∧ (0 : Int) < 2 ^ m ∧ (2 : Int) ^ m < 1073741824 := by
  match m, h with
  | 0, _ => exact ⟨rfl, by decide, by decide⟩
  | 1, _ => exact ⟨rfl, by decide, by decide⟩
  | 2, _ => exact ⟨rfl, by decide, by decide⟩
  | 3, _ => exact ⟨rfl, by decide, by decide⟩
  | 4, _ => exact ⟨rfl, by decide, by decide⟩
  | 5, _ => exact ⟨rfl, by decide, by decide⟩
  | 6, _ => exact ⟨rfl, by decide, by decide⟩
  | 7, _ => exact ⟨rfl, by decide, by decide⟩
section
variable {P : Program} {w : World} {K : PySem.W.Frag} {mg : Str → Option Value} {base : Heap}
theorem scl_body_told : FnScope ["_law_doing_here", "_law_word_here", "_law_number", "_law_body_here"] ["_law_doing_here", "_law_word_here", "_law_number"] (defScope sl_body_told) := ⟨rfl, rfl, rfl, by decide +kernel, rfl, by decide +kernel, by decide +kernel⟩
theorem ok_l_body_told (T : Tx w K mg) : Cal P w K mg base "_law_body_told" 1 ["_law_doing_here", "_law_word_here", "_law_number"] spTold := by
  obtain ⟨fd, F⟩ : ∃ fd, Fun K "_law_body_told" "_law_body_told" sl_body_told 938 fd := T.fn 94 _ rfl
  refine T.cal F 153 rfl (fun _ _ _ _ _ _ us hl => match us, hl with | [_, _, _], _ => rfl) ?_
  refine F.ok scl_body_told (fun vs H Q E h => ?_) (fun cdv A outer s H vs Q E hr h => ?_)
  · obtain ⟨A, c, s, f, w, n, rfl, _⟩ := h
    rfl
  obtain ⟨A, c, s, f, w, n, rfl, hD, hw, k⟩ := h
  unfold toldF at k
  have hu := hu_of hr
  refine ⟨_, (pss_cons (ps_for PassesOwn.never rfl (pi_list (pe_dget hu (pv 0) pe_str (fun _ _ => rfl))) (pg_name (i := 3) scl_body_told.nd rfl (Or.inl rfl))
      (pss_one (ps_if (pt_cmpR op_eq (pe_ix ix_list (pv 3) pe_int (fun _ _ => rfl)) (pv 2) (nomark _)) (pss_one (ps_ret (pe_ix ix_list (pv 3) (pe_dget hu (pe_disp (pps_cons pe_str pe_int (pps_cons pe_str pe_int (pps_cons pe_str pe_int pps_nil))) (by rfl) (by rfl) (fun z => by cases z) (by decide)) (pv 1) (fun _ _ => rfl)) (fun _ _ => rfl)))) pss_nil)))
    (pss_cons (ps_if (pt_cmpR op_eq (pv 1) pe_str (nomark _)) (pss_one (ps_ret (pe_un un_neg pe_int))) pss_nil)
    (pss_one (ps_ret pe_int)))), ?_⟩
  refine ⟨_, rfl, A.d, _, rfl, hD.key doK_bo, A.bo, rfl, ⟨_, SqL.of hD.bo⟩, ?_⟩
  refine for_list (xs := A.bl.map V.ref) (fun i σ' H' => ∃ k1, σ' = [some (.ref A.d), some (.str w.str), some (.int n), k1] ∧ H' = H ∧ ∀ b ∈ s.bs.take i, b.num ≠ n) ?_ ?_ ?_ ?_
  · exact ⟨none, rfl, rfl, fun b hb => absurd hb (by simp)⟩
  · rintro i σ' H' _ ⟨_, _, rfl, _⟩
    exact SqL.of hD.bo
  · rintro i x σ' H' hi ⟨k1, rfl, rfl, hn⟩
    rw [List.getElem?_map] at hi
    cases q : A.bl[i]? with
    | none => rw [q] at hi; cases hi
    | some p =>
      rw [q] at hi
      cases hi
      obtain ⟨b, eb, cc, e1, _⟩ := hD.bl.getL q
      refine ⟨_, rfl, p, blV b cc, 0, _, rfl, rfl, SqL.of e1, rfl, _, rfl, rfl, _, rfl, hit (fun z => ?_) (fun z => ?_)⟩
      · have z' : b.num = n := by
          have := of_decide_eq_true z
          simpa using this
        rw [find_at eb z' hn] at k
        refine ⟨_, rfl, fun dp ndp => ⟨upd_same, [(Sum.inr "kind", .int 1), (Sum.inr "left", .int 2), (Sum.inr "top", .int 3)], rfl, (by show 3 ≤ 15; decide), ?_⟩⟩
        have kn : Kp M0 H' (upd (upd H' dp (.dK [])) dp (.dK (mergeK [] [(Sum.inr "kind", .int 1), (Sum.inr "left", .int 2), (Sum.inr "top", .int 3)]))) := by
          rw [upd_upd]
          exact Kp.new ndp
        have e1' := kn.keep _ _ e1 id
        rcases hw with rfl | rfl | rfl
        · exact ⟨_, rfl, dp, .int 1, rfl, .inl ⟨_, Sum.inr "kind", .inl upd_same, rfl, rfl⟩, p, blV b cc, 1, _, rfl, rfl, SqL.of e1', rfl, k _ kn⟩
        · exact ⟨_, rfl, dp, .int 2, rfl, .inl ⟨_, Sum.inr "left", .inl upd_same, rfl, rfl⟩, p, blV b cc, 2, _, rfl, rfl, SqL.of e1', rfl, k _ kn⟩
        · exact ⟨_, rfl, dp, .int 3, rfl, .inl ⟨_, Sum.inr "top", .inl upd_same, rfl, rfl⟩, p, blV b cc, 3, _, rfl, rfl, SqL.of e1', rfl, k _ kn⟩
      · refine ⟨_, rfl, rfl, fun x hx => ?_⟩
        rw [List.take_add_one, eb] at hx
        rcases List.mem_append.mp hx with q | q
        · exact hn x q
        · have : x = b := by simpa using q
          rw [this]
          intro y
          rw [y] at z
          exact absurd z (by simp)
  · rintro σ' H' ⟨k1, rfl, rfl, hn⟩
    rw [List.length_map, show A.bl.length = s.bs.length from hD.bl.len, List.take_length] at hn
    rw [find_no hn] at k
    rcases hw with rfl | rfl | rfl
    · exact ⟨_, rfl, rfl, _, rfl, hit (fun _ => ⟨_, rfl, k _ Kp.rfl⟩) (fun c => absurd c (by decide +kernel))⟩
    · exact ⟨_, rfl, rfl, _, rfl, hit (fun c => absurd c (by decide +kernel)) (fun _ => k _ Kp.rfl)⟩
    · exact ⟨_, rfl, rfl, _, rfl, hit (fun c => absurd c (by decide +kernel)) (fun _ => k _ Kp.rfl)⟩
theorem scl_of_one : FnScope ["_law_doing_here", "_law_word_here", "_law_one"] ["_law_doing_here", "_law_word_here", "_law_one"] (defScope sl_of_one) := ⟨rfl, rfl, rfl, by decide +kernel, rfl, by decide +kernel, by decide +kernel⟩
theorem ok_l_of_one (T : Tx w K mg) : Cal P w K mg base "_law_of_one" 3 ["_law_doing_here", "_law_word_here", "_law_one"] spOne := by
  obtain ⟨fd, F⟩ : ∃ fd, Fun K "_law_of_one" "_law_of_one" sl_of_one 945 fd := T.fn 95 _ rfl
  refine T.cal F 154 rfl (fun _ _ _ _ _ _ us hl => match us, hl with | [_, _, _], _ => rfl) ?_
  refine F.ok scl_of_one (fun vs H Q E h => ?_) (fun cdv A outer s H vs Q E hr h => ?_)
  · obtain ⟨A, c, s, f, w, v, rfl, _⟩ := h
    rfl
  obtain ⟨A, c, s, f, w, v, rfl, hD, hw, hc, hv, k⟩ := h
  have hu := hu_of hr
  refine ⟨_, (pss_cons (ps_if (pt_cmpR op_eq (pv 1) pe_str (nomark _)) (pss_one (ps_ret (pe_callTy call_int1 rfl (fr_int T) (by decide +kernel) (pa_cons (pe_cmpR op_eq (pv 2) pe_int (nomark _)) pa_nil)))) pss_nil)
    (pss_cons (ps_if (pt_cmpR op_eq (pv 1) pe_str (nomark _)) (pss_one (ps_ret (pe_k (ok_l_wrap T) (hr.mono (by decide)) (pa_cons (pe_op op_sub pe_int (pv 2)) pa_nil)))) pss_nil)
    (pss_cons (ps_if (pt_cmpR op_eq (pv 1) pe_str (nomark _)) (pss_cons (ps_if (pt_cmpR op_le (pv 2) pe_int (nomark _)) (pss_one (ps_ret pe_int)) pss_nil)
    (pss_cons (ps_dput hu (pv 0) pe_str (pe_op op_mod (pe_callTy call_int1 rfl (fr_int T) (by decide +kernel) (pa_cons (pe_op op_mul (pe_dget hu (pv 0) pe_str (fun _ _ => rfl)) pe_int) pa_nil)) pe_int) rfl)
    (pss_one (ps_ret (pe_op op_mod (pe_callTy call_int1 rfl (fr_int T) (by decide +kernel) (pa_cons (pe_op op_fdiv (pe_dget hu (pv 0) pe_str (fun _ _ => rfl)) pe_int) pa_nil)) (pv 2)))))) pss_nil)
    (pss_cons (ps_if (pt_cmpR op_eq (pv 1) pe_str (nomark _)) (pss_cons (ps_if (PW.pt (pw_or (pt_cmpR op_lt (pv 2) pe_int (nomark _)) (pw_or1 (pt_cmpR op_gt (pv 2) pe_int (nomark _))))) (pss_one (ps_ret pe_int)) pss_nil)
    (pss_one (ps_ret (pe_op op_mod (pe_callTy call_int1 rfl (fr_int T) (by decide +kernel) (pa_cons (pe_op op_fdiv (pe_k (ok_l_buttons T) (hr.mono (by decide)) (pa_cons (pv 0) pa_nil)) (pe_ix ix_list (pe_lst (pa_cons pe_int (pa_cons pe_int (pa_cons pe_int (pa_cons pe_int (pa_cons pe_int (pa_cons pe_int (pa_cons pe_int (pa_cons pe_int pa_nil))))))))) (pv 2) (fun _ _ => rfl))) pa_nil)) pe_int)))) pss_nil)
    (pss_one (ps_ret (pe_k (ok_l_wrap T) (hr.mono (by decide)) (pa_cons (pe_k (ok_l_body_told T) (hr.mono (by decide)) (pa_cons (pv 0) (pa_cons (pv 1) (pa_cons (pv 2) pa_nil)))) pa_nil)))))))), ?_⟩
  have kr := fun (hq : LD H A c (oneF c s w v).2 f) => k H Kp.rfl hq
  cases w with
  | not =>
    refine ⟨_, rfl, rfl, _, rfl, hit (fun _ => ?_) (fun c => absurd c (by decide +kernel))⟩
    refine ⟨_, rfl, rfl, .inr ⟨_, rfl, ?_⟩⟩
    have kk := kr hD
    rw [show (oneF c s .not v).1 = (if decide (V.int v = V.int 0) = true then 1 else 0) by simp [oneF]] at kk
    exact kk
  | minus =>
    refine ⟨_, rfl, rfl, _, rfl, hit (fun c => absurd c (by decide +kernel)) (fun _ => ?_)⟩
    refine ⟨_, rfl, rfl, _, rfl, hit (fun _ => ?_) (fun c => absurd c (by decide +kernel))⟩
    exact ⟨_, rfl, _, _, rfl, rfl, _, rfl, kr hD⟩
  | draw =>
    refine ⟨_, rfl, rfl, _, rfl, hit (fun c => absurd c (by decide +kernel)) (fun _ => ?_)⟩
    refine ⟨_, rfl, rfl, _, rfl, hit (fun c => absurd c (by decide +kernel)) (fun _ => ?_)⟩
    refine ⟨_, rfl, rfl, _, rfl, hit (fun _ => ?_) (fun c => absurd c (by decide +kernel))⟩
    unfold oneF at k
    refine ⟨_, rfl, _, _, rfl, rfl, _, rfl, hit (fun z => ?_) (fun z => ?_)⟩
    · have z' : v ≤ 0 := of_decide_eq_true z
      simp only [if_pos (show v < 1 by omega)] at k
      exact k _ Kp.rfl hD
    · have z' : ¬ v ≤ 0 := of_decide_eq_false z
      simp only [if_neg (show ¬ v < 1 by omega)] at k
      have h0 := hw.s0
      have h1 := hw.s1
      refine ⟨_, rfl, A.d, _, rfl, hD.key doK_seed, _, _, rfl, rfl, .inr ⟨by decide, by decide⟩, .inl ⟨_, rfl, _, _, rfl, rfl, (by show (0 : Int) < 2147483647; decide), _, rfl, A.d, _, rfl, DPut.k (k := Sum.inr "seed") hD.d (by show (14 : Nat) < sizeLine; decide), ?_⟩⟩
      rw [doK_putSeed]
      have hD2 := hD.setD (lateF s.seed) f
      have kp2 := hD.kpD (.dK (doK c A (lateF s.seed) f))
      exact ⟨_, rfl, A.d, _, rfl, hD2.key doK_seed, _, _, rfl, rfl, ⟨by decide, by decide⟩, .inl ⟨_, rfl, _, rfl, _, _, rfl, rfl, (by show 0 < v; omega), k _ kp2 hD2⟩⟩
  | press =>
    refine ⟨_, rfl, rfl, _, rfl, hit (fun c => absurd c (by decide +kernel)) (fun _ => ?_)⟩
    refine ⟨_, rfl, rfl, _, rfl, hit (fun c => absurd c (by decide +kernel)) (fun _ => ?_)⟩
    refine ⟨_, rfl, rfl, _, rfl, hit (fun c => absurd c (by decide +kernel)) (fun _ => ?_)⟩
    refine ⟨_, rfl, rfl, _, rfl, hit (fun _ => ?_) (fun c => absurd c (by decide +kernel))⟩
    unfold oneF at k
    refine ⟨_, rfl, _, _, rfl, rfl, _, rfl, hit (fun z => ?_) (fun z => ?_)⟩
    · have z' : v < 0 := of_decide_eq_true z
      simp only [if_neg (show ¬ (0 ≤ v ∧ v < 8) by omega)] at k
      exact iteT (k _ Kp.rfl hD)
    refine ⟨_, rfl, _, _, rfl, rfl, _, rfl, hit (fun z2 => ?_) (fun z2 => ?_)⟩
    · have z' : 7 < v := of_decide_eq_true z2
      simp only [if_neg (show ¬ (0 ≤ v ∧ v < 8) by omega)] at k
      exact k _ Kp.rfl hD
    · have z' : ¬ v < 0 := of_decide_eq_false z
      have z2' : ¬ 7 < v := of_decide_eq_false z2
      simp only [if_pos (show 0 ≤ v ∧ v < 8 by omega)] at k
      refine ⟨_, rfl, A, c, s, f, rfl, hD, hw, hc, (by show 8 ≤ sizeLine; decide), fun p np => ?_⟩
      have hp := pow8 (m := v.toNat) (by omega)
      have kn : Kp (Md A) H (upd H p (.lst [.int 1, .int 2, .int 4, .int 8, .int 16, .int 32, .int 64, .int 128])) := Kp.new np
      exact ⟨_, rfl, p, _, v, _, rfl, rfl, SqL.of upd_same, atI_of (j := v.toNat) (by omega) hp.1, _, _, rfl, rfl, ⟨hp.2.1, hp.2.2⟩, .inl ⟨_, rfl, _, _, rfl, rfl, (by show (0 : Int) < 2; decide), k _ kn (hD.new np)⟩⟩
  | kind =>
    refine ⟨_, rfl, rfl, _, rfl, hit (fun c => absurd c (by decide +kernel)) (fun _ => ?_)⟩
    refine ⟨_, rfl, rfl, _, rfl, hit (fun c => absurd c (by decide +kernel)) (fun _ => ?_)⟩
    refine ⟨_, rfl, rfl, _, rfl, hit (fun c => absurd c (by decide +kernel)) (fun _ => ?_)⟩
    refine ⟨_, rfl, rfl, _, rfl, hit (fun c => absurd c (by decide +kernel)) (fun _ => ?_)⟩
    refine ⟨_, rfl, _, rfl, _, rfl, A, c, s, f, .kind, v, rfl, hD, .inl rfl, fun H' kp => ⟨_, rfl, ?_⟩⟩
    rw [wrap_id (told_sml hw hc _ _)]
    exact k _ (kp.weak fun _ z => z.elim) (hD.kp0 kp)
  | left =>
    refine ⟨_, rfl, rfl, _, rfl, hit (fun c => absurd c (by decide +kernel)) (fun _ => ?_)⟩
    refine ⟨_, rfl, rfl, _, rfl, hit (fun c => absurd c (by decide +kernel)) (fun _ => ?_)⟩
    refine ⟨_, rfl, rfl, _, rfl, hit (fun c => absurd c (by decide +kernel)) (fun _ => ?_)⟩
    refine ⟨_, rfl, rfl, _, rfl, hit (fun c => absurd c (by decide +kernel)) (fun _ => ?_)⟩
    refine ⟨_, rfl, _, rfl, _, rfl, A, c, s, f, .left, v, rfl, hD, .inr (.inl rfl), fun H' kp => ⟨_, rfl, ?_⟩⟩
    rw [wrap_id (told_sml hw hc _ _)]
    exact k _ (kp.weak fun _ z => z.elim) (hD.kp0 kp)
  | top =>
    refine ⟨_, rfl, rfl, _, rfl, hit (fun c => absurd c (by decide +kernel)) (fun _ => ?_)⟩
    refine ⟨_, rfl, rfl, _, rfl, hit (fun c => absurd c (by decide +kernel)) (fun _ => ?_)⟩
    refine ⟨_, rfl, rfl, _, rfl, hit (fun c => absurd c (by decide +kernel)) (fun _ => ?_)⟩
    refine ⟨_, rfl, rfl, _, rfl, hit (fun c => absurd c (by decide +kernel)) (fun _ => ?_)⟩
    refine ⟨_, rfl, _, rfl, _, rfl, A, c, s, f, .top, v, rfl, hD, .inr (.inr rfl), fun H' kp => ⟨_, rfl, ?_⟩⟩
    rw [wrap_id (told_sml hw hc _ _)]
    exact k _ (kp.weak fun _ z => z.elim) (hD.kp0 kp)
end
end G
set_option Elab.async false
set_option linter.all false
set_option maxRecDepth 100000
set_option maxHeartbeats 4000000
namespace G
open PySem PySem.Spec PyProof.Rows L2
theorem log_sml {n : Int} (h : Sml n) : n.natAbs.log2 < 9000 := by
  unfold Sml at h
  have h1 : n.natAbs < 2 ^ 33 := by omega
  by_cases z : n.natAbs = 0
  · rw [z]; decide
  · have := (Nat.log2_lt z).mpr h1
    omega
theorem ab_eq (a : Int) : (if (if a < 0 then -a else a) < 1 then (if a < 0 then -a else a) else 1) = if a = 0 then 0 else 1 := by
  by_cases h : a = 0
  · subst h; decide
  · rw [if_neg h]
    by_cases h2 : a < 0
    · rw [if_pos h2, if_neg (by omega)]
    · rw [if_neg h2, if_neg (by omega)]
theorem and2 (a b : Int) : (if a = 0 then (0 : Int) else 1) * (if b = 0 then 0 else 1) = if a ≠ 0 ∧ b ≠ 0 then 1 else 0 := by
  by_cases h : a = 0 <;> by_cases h2 : b = 0 <;> simp [h, h2]
theorem or2 (a b : Int) : (if (if b = 0 then (0 : Int) else 1) > (if a = 0 then 0 else 1) then (if b = 0 then (0 : Int) else 1) else (if a = 0 then 0 else 1)) = if a ≠ 0 ∨ b ≠ 0 then 1 else 0 := by
  by_cases h : a = 0 <;> by_cases h2 : b = 0 <;> simp [h, h2]
section
variable {P : Program} {w : World} {K : PySem.W.Frag} {mg : Str → Option Value} {base : Heap}
theorem scl_of_two : FnScope ["_law_doing_here", "_law_word_here", "_law_one", "_law_other"] ["_law_doing_here", "_law_word_here", "_law_one", "_law_other"] (defScope sl_of_two) := ⟨rfl, rfl, rfl, by decide +kernel, rfl, by decide +kernel, by decide +kernel⟩
theorem ok_l_of_two (T : Tx w K mg) : Cal P w K mg base "_law_of_two" 3 ["_law_doing_here", "_law_word_here", "_law_one", "_law_other"] spTwo := by
  obtain ⟨fd, F⟩ : ∃ fd, Fun K "_law_of_two" "_law_of_two" sl_of_two 952 fd := T.fn 96 _ rfl
  refine T.cal F 155 rfl (fun _ _ _ _ _ _ us hl => match us, hl with | [_, _, _, _], _ => rfl) ?_
  refine F.ok scl_of_two (fun vs H Q E h => ?_) (fun cdv A outer s H vs Q E hr h => ?_)
  · obtain ⟨A, c, s, f, w, a, b, rfl, _⟩ := h
    rfl
  obtain ⟨A, c, s, f, w, a, b, rfl, hD, hc, ha, hb, k⟩ := h
  have hu := hu_of hr
  refine ⟨_, (pss_cons (ps_if (pt_cmpR op_eq (pv 1) pe_str (nomark _)) (pss_one (ps_ret (pe_k (ok_l_wrap T) (hr.mono (by decide)) (pa_cons (pe_op op_add (pv 2) (pv 3)) pa_nil)))) pss_nil)
    (pss_cons (ps_if (pt_cmpR op_eq (pv 1) pe_str (nomark _)) (pss_one (ps_ret (pe_k (ok_l_wrap T) (hr.mono (by decide)) (pa_cons (pe_op op_sub (pv 2) (pv 3)) pa_nil)))) pss_nil)
    (pss_cons (ps_if (pt_cmpR op_eq (pv 1) pe_str (nomark _)) (pss_one (ps_ret (pe_k (ok_l_wrap T) (hr.mono (by decide)) (pa_cons (pe_op op_mul (pv 2) (pv 3)) pa_nil)))) pss_nil)
    (pss_cons (ps_if (pt_cmpR op_eq (pv 1) pe_str (nomark _)) (pss_one (ps_ret (pe_callTy call_int1 rfl (fr_int T) (by decide +kernel) (pa_cons (pe_cmpR op_lt (pv 2) (pv 3) (nomark _)) pa_nil)))) pss_nil)
    (pss_cons (ps_if (pt_cmpR op_eq (pv 1) pe_str (nomark _)) (pss_one (ps_ret (pe_callTy call_int1 rfl (fr_int T) (by decide +kernel) (pa_cons (pe_cmpR op_eq (pv 2) (pv 3) (nomark _)) pa_nil)))) pss_nil)
    (pss_cons (ps_if (pt_cmpR op_eq (pv 1) pe_str (nomark _)) (pss_one (ps_ret (pe_op op_mul (pe_callB (call_min2 rfl) rfl (fr_min T) (by decide +kernel) (pa_cons pe_int (pa_cons (pe_callB call_abs rfl (fr_abs T) (by decide +kernel) (pa_cons (pv 2) pa_nil)) pa_nil))) (pe_callB (call_min2 rfl) rfl (fr_min T) (by decide +kernel) (pa_cons pe_int (pa_cons (pe_callB call_abs rfl (fr_abs T) (by decide +kernel) (pa_cons (pv 3) pa_nil)) pa_nil)))))) pss_nil)
    (pss_cons (ps_if (pt_cmpR op_eq (pv 1) pe_str (nomark _)) (pss_one (ps_ret (pe_callB (call_max2 rfl) rfl (fr_max T) (by decide +kernel) (pa_cons (pe_callB (call_min2 rfl) rfl (fr_min T) (by decide +kernel) (pa_cons pe_int (pa_cons (pe_callB call_abs rfl (fr_abs T) (by decide +kernel) (pa_cons (pv 2) pa_nil)) pa_nil))) (pa_cons (pe_callB (call_min2 rfl) rfl (fr_min T) (by decide +kernel) (pa_cons pe_int (pa_cons (pe_callB call_abs rfl (fr_abs T) (by decide +kernel) (pa_cons (pv 3) pa_nil)) pa_nil))) pa_nil))))) pss_nil)
    (pss_cons (ps_if (pt_cmpR op_eq (pv 1) pe_str (nomark _)) (pss_one (ps_ret (pe_k (ok_l_seen T) (hr.mono (by decide)) (pa_cons (pe_dget hu (pv 0) pe_str (fun _ _ => rfl)) (pa_cons (pv 2) (pa_cons (pv 3) pa_nil)))))) pss_nil)
    (pss_cons (ps_if (pt_cmpR op_eq (pv 3) pe_int (nomark _)) (pss_one (ps_ret pe_int)) pss_nil)
    (pss_cons (ps_if (pt_cmpR op_eq (pv 1) pe_str (nomark _)) (pss_one (ps_ret (pe_k (ok_l_wrap T) (hr.mono (by decide)) (pa_cons (pe_op op_fdivB (pv 2) (pv 3)) pa_nil)))) pss_nil)
    (pss_one (ps_ret (pe_k (ok_l_wrap T) (hr.mono (by decide)) (pa_cons (pe_op op_modN (pe_callTy call_int1 rfl (fr_int T) (by decide +kernel) (pa_cons (pv 2) pa_nil)) (pv 3)) pa_nil)))))))))))))), ?_⟩
  cases w with
  | add =>
    refine ⟨_, rfl, rfl, _, rfl, hit (fun _ => ?_) (fun c => absurd c (by decide +kernel))⟩
    exact ⟨_, rfl, _, rfl, _, _, rfl, rfl, _, rfl, k⟩
  | sub =>
    refine ⟨_, rfl, rfl, _, rfl, hit (fun c => absurd c (by decide +kernel)) (fun _ => ?_)⟩
    refine ⟨_, rfl, rfl, _, rfl, hit (fun _ => ?_) (fun c => absurd c (by decide +kernel))⟩
    exact ⟨_, rfl, _, rfl, _, _, rfl, rfl, _, rfl, k⟩
  | mul =>
    refine ⟨_, rfl, rfl, _, rfl, hit (fun c => absurd c (by decide +kernel)) (fun _ => ?_)⟩
    refine ⟨_, rfl, rfl, _, rfl, hit (fun c => absurd c (by decide +kernel)) (fun _ => ?_)⟩
    refine ⟨_, rfl, rfl, _, rfl, hit (fun _ => ?_) (fun c => absurd c (by decide +kernel))⟩
    exact ⟨_, rfl, _, rfl, _, _, rfl, rfl, .inl ⟨by have := ha.1; omega, by have := ha.2; omega⟩, _, rfl, k⟩
  | div =>
    refine ⟨_, rfl, rfl, _, rfl, hit (fun c => absurd c (by decide +kernel)) (fun _ => ?_)⟩
    refine ⟨_, rfl, rfl, _, rfl, hit (fun c => absurd c (by decide +kernel)) (fun _ => ?_)⟩
    refine ⟨_, rfl, rfl, _, rfl, hit (fun c => absurd c (by decide +kernel)) (fun _ => ?_)⟩
    refine ⟨_, rfl, rfl, _, rfl, hit (fun c => absurd c (by decide +kernel)) (fun _ => ?_)⟩
    refine ⟨_, rfl, rfl, _, rfl, hit (fun c => absurd c (by decide +kernel)) (fun _ => ?_)⟩
    refine ⟨_, rfl, rfl, _, rfl, hit (fun c => absurd c (by decide +kernel)) (fun _ => ?_)⟩
    refine ⟨_, rfl, rfl, _, rfl, hit (fun c => absurd c (by decide +kernel)) (fun _ => ?_)⟩
    refine ⟨_, rfl, rfl, _, rfl, hit (fun c => absurd c (by decide +kernel)) (fun _ => ?_)⟩
    refine ⟨_, rfl, rfl, _, rfl, hit (fun z => ?_) (fun z => ?_)⟩
    · have z' : b = 0 := by
        have := of_decide_eq_true z
        simpa using this
      rw [show twoF c .div a b = 0 by simp [twoF, z']] at k
      exact k
    have z' : b ≠ 0 := fun y => by
      rw [y] at z
      exact absurd z (by decide)
    refine ⟨_, rfl, rfl, _, rfl, hit (fun _ => ?_) (fun c => absurd c (by decide +kernel))⟩
    rw [show twoF c .div a b = wrapF (a.fdiv b) by simp [twoF, z']] at k
    exact ⟨_, rfl, _, rfl, _, _, rfl, rfl, ⟨z', log_sml hb⟩, _, rfl, k⟩
  | rest =>
    refine ⟨_, rfl, rfl, _, rfl, hit (fun c => absurd c (by decide +kernel)) (fun _ => ?_)⟩
    refine ⟨_, rfl, rfl, _, rfl, hit (fun c => absurd c (by decide +kernel)) (fun _ => ?_)⟩
    refine ⟨_, rfl, rfl, _, rfl, hit (fun c => absurd c (by decide +kernel)) (fun _ => ?_)⟩
    refine ⟨_, rfl, rfl, _, rfl, hit (fun c => absurd c (by decide +kernel)) (fun _ => ?_)⟩
    refine ⟨_, rfl, rfl, _, rfl, hit (fun c => absurd c (by decide +kernel)) (fun _ => ?_)⟩
    refine ⟨_, rfl, rfl, _, rfl, hit (fun c => absurd c (by decide +kernel)) (fun _ => ?_)⟩
    refine ⟨_, rfl, rfl, _, rfl, hit (fun c => absurd c (by decide +kernel)) (fun _ => ?_)⟩
    refine ⟨_, rfl, rfl, _, rfl, hit (fun c => absurd c (by decide +kernel)) (fun _ => ?_)⟩
    refine ⟨_, rfl, rfl, _, rfl, hit (fun z => ?_) (fun z => ?_)⟩
    · have z' : b = 0 := by
        have := of_decide_eq_true z
        simpa using this
      rw [show twoF c .rest a b = 0 by simp [twoF, z']] at k
      exact k
    have z' : b ≠ 0 := fun y => by
      rw [y] at z
      exact absurd z (by decide)
    refine ⟨_, rfl, rfl, _, rfl, hit (fun c => absurd c (by decide +kernel)) (fun _ => ?_)⟩
    rw [show twoF c .rest a b = wrapF (a.fmod b) by simp [twoF, z']] at k
    exact ⟨_, rfl, .inl ⟨_, rfl, _, rfl, _, _, rfl, rfl, z', _, rfl, k⟩⟩
  | less =>
    refine ⟨_, rfl, rfl, _, rfl, hit (fun c => absurd c (by decide +kernel)) (fun _ => ?_)⟩
    refine ⟨_, rfl, rfl, _, rfl, hit (fun c => absurd c (by decide +kernel)) (fun _ => ?_)⟩
    refine ⟨_, rfl, rfl, _, rfl, hit (fun c => absurd c (by decide +kernel)) (fun _ => ?_)⟩
    refine ⟨_, rfl, rfl, _, rfl, hit (fun _ => ?_) (fun c => absurd c (by decide +kernel))⟩
    refine ⟨_, rfl, _, rfl, _, _, rfl, rfl, .inr ⟨_, rfl, ?_⟩⟩
    rw [show twoF c .less a b = (if decide (a < b) = true then 1 else 0) by simp [twoF]] at k
    exact k
  | same =>
    refine ⟨_, rfl, rfl, _, rfl, hit (fun c => absurd c (by decide +kernel)) (fun _ => ?_)⟩
    refine ⟨_, rfl, rfl, _, rfl, hit (fun c => absurd c (by decide +kernel)) (fun _ => ?_)⟩
    refine ⟨_, rfl, rfl, _, rfl, hit (fun c => absurd c (by decide +kernel)) (fun _ => ?_)⟩
    refine ⟨_, rfl, rfl, _, rfl, hit (fun c => absurd c (by decide +kernel)) (fun _ => ?_)⟩
    refine ⟨_, rfl, rfl, _, rfl, hit (fun _ => ?_) (fun c => absurd c (by decide +kernel))⟩
    refine ⟨_, rfl, _, rfl, rfl, .inr ⟨_, rfl, ?_⟩⟩
    rw [show twoF c .same a b = (if decide (V.int a = V.int b) = true then 1 else 0) by simp [twoF]] at k
    exact k
  | «and» =>
    refine ⟨_, rfl, rfl, _, rfl, hit (fun c => absurd c (by decide +kernel)) (fun _ => ?_)⟩
    refine ⟨_, rfl, rfl, _, rfl, hit (fun c => absurd c (by decide +kernel)) (fun _ => ?_)⟩
    refine ⟨_, rfl, rfl, _, rfl, hit (fun c => absurd c (by decide +kernel)) (fun _ => ?_)⟩
    refine ⟨_, rfl, rfl, _, rfl, hit (fun c => absurd c (by decide +kernel)) (fun _ => ?_)⟩
    refine ⟨_, rfl, rfl, _, rfl, hit (fun c => absurd c (by decide +kernel)) (fun _ => ?_)⟩
    refine ⟨_, rfl, rfl, _, rfl, hit (fun _ => ?_) (fun c => absurd c (by decide +kernel))⟩
    refine ⟨_, rfl, _, rfl, _, _, rfl, _, rfl, _, rfl, _, _, rfl, _, _, rfl, rfl, .inl ?_, ?_⟩
    · constructor <;> split <;> omega
    · show Q (.int ((if (if a < 0 then -a else a) < 1 then (if a < 0 then -a else a) else 1) * (if (if b < 0 then -b else b) < 1 then (if b < 0 then -b else b) else 1))) H
      rw [ab_eq, ab_eq, and2]
      exact k
  | «or» =>
    refine ⟨_, rfl, rfl, _, rfl, hit (fun c => absurd c (by decide +kernel)) (fun _ => ?_)⟩
    refine ⟨_, rfl, rfl, _, rfl, hit (fun c => absurd c (by decide +kernel)) (fun _ => ?_)⟩
    refine ⟨_, rfl, rfl, _, rfl, hit (fun c => absurd c (by decide +kernel)) (fun _ => ?_)⟩
    refine ⟨_, rfl, rfl, _, rfl, hit (fun c => absurd c (by decide +kernel)) (fun _ => ?_)⟩
    refine ⟨_, rfl, rfl, _, rfl, hit (fun c => absurd c (by decide +kernel)) (fun _ => ?_)⟩
    refine ⟨_, rfl, rfl, _, rfl, hit (fun c => absurd c (by decide +kernel)) (fun _ => ?_)⟩
    refine ⟨_, rfl, rfl, _, rfl, hit (fun _ => ?_) (fun c => absurd c (by decide +kernel))⟩
    refine ⟨_, rfl, _, rfl, _, _, rfl, _, rfl, _, rfl, _, _, rfl, _, _, rfl, ?_⟩
    rw [ab_eq, ab_eq, or2]
    exact k
  | cell =>
    refine ⟨_, rfl, rfl, _, rfl, hit (fun c => absurd c (by decide +kernel)) (fun _ => ?_)⟩
    refine ⟨_, rfl, rfl, _, rfl, hit (fun c => absurd c (by decide +kernel)) (fun _ => ?_)⟩
    refine ⟨_, rfl, rfl, _, rfl, hit (fun c => absurd c (by decide +kernel)) (fun _ => ?_)⟩
    refine ⟨_, rfl, rfl, _, rfl, hit (fun c => absurd c (by decide +kernel)) (fun _ => ?_)⟩
    refine ⟨_, rfl, rfl, _, rfl, hit (fun c => absurd c (by decide +kernel)) (fun _ => ?_)⟩
    refine ⟨_, rfl, rfl, _, rfl, hit (fun c => absurd c (by decide +kernel)) (fun _ => ?_)⟩
    refine ⟨_, rfl, rfl, _, rfl, hit (fun c => absurd c (by decide +kernel)) (fun _ => ?_)⟩
    refine ⟨_, rfl, rfl, _, rfl, hit (fun _ => ?_) (fun c => absurd c (by decide +kernel))⟩
    exact ⟨_, rfl, A.d, _, rfl, hD.key doK_rows, _, rfl, _, rfl, .ref A.rt, c.rows, c.wd, a, b, rfl, ⟨A.rt, rfl, hD.rt⟩, hc.rows, k⟩
def spVal (n : Nat) : Sp := fun vs H Q _ => ∃ (A : LA) (c : Cfg) (s : S) (f : Int) (v : V) (e : Ex), vs = [.ref A.d, v] ∧ LD H A c s f ∧ WfS c s ∧ WfC c ∧ ExAt H e v ∧ e.ok ∧ e.dp ≤ n ∧ ∀ H', Kp (Md A) H H' → LD H' A c (evE c e s).2 f → Q (.int (evE c e s).1) H'
theorem one_sml {c : Cfg} {s : S} (hw : WfS c s) (hc : WfC c) (w : W1) {v : Int} (hv : Sml v) : Sml (oneF c s w v).1 := by
  cases w with
  | not => show Sml (if v = 0 then 1 else 0); split <;> (unfold Sml; decide)
  | minus => exact wrapF_sml _
  | draw =>
    show Sml (if v < 1 then ((0 : Int), s) else (lateF s.seed / 16 % v, { s with seed := lateF s.seed })).1
    split
    · show Sml 0
      unfold Sml; decide
    · have h1 := Int.emod_nonneg (lateF s.seed / 16) (show v ≠ 0 by omega)
      have h2 := Int.emod_lt_of_pos (lateF s.seed / 16) (show 0 < v by omega)
      unfold Sml at hv ⊢
      constructor
      · show -2147483648 ≤ lateF s.seed / 16 % v; omega
      · show lateF s.seed / 16 % v ≤ 2147483647; omega
  | press =>
    show Sml (if 0 ≤ v ∧ v < 8 then butF c s / 2 ^ v.toNat % 2 else 0)
    split
    · generalize butF c s / 2 ^ v.toNat = z
      unfold Sml
      omega
    · unfold Sml; decide
  | kind => exact told_sml hw hc _ _
  | left => exact told_sml hw hc _ _
  | top => exact told_sml hw hc _ _
theorem sign_lt {rows : List (List Nat)} {wd : Nat} {x y : Int} (ok : RowsOk rows wd) : Sml (markF rows wd x y) := by
  have h := signF_sg (x := x) (y := y) ok
  unfold markF Sml
  unfold Sg at h
  split
  · omega
  · split <;> omega
theorem two_sml {c : Cfg} (hc : WfC c) (w : W2) (a b : Int) : Sml (twoF c w a b) := by
  have z0 : Sml 0 := by unfold Sml; decide
  have z1 : Sml 1 := by unfold Sml; decide
  cases w with
  | add => exact wrapF_sml _
  | sub => exact wrapF_sml _
  | mul => exact wrapF_sml _
  | div => unfold twoF; simp only; split; exact z0; exact wrapF_sml _
  | rest => unfold twoF; simp only; split; exact z0; exact wrapF_sml _
  | less => unfold twoF; simp only; split; exact z1; exact z0
  | same => unfold twoF; simp only; split; exact z1; exact z0
  | «and» => unfold twoF; simp only; split; exact z1; exact z0
  | «or» => unfold twoF; simp only; split; exact z1; exact z0
  | cell => exact sign_lt hc.rows
theorem evE_sml {c : Cfg} (hc : WfC c) : ∀ (e : Ex) {s : S}, WfS c s → e.ok → Sml (evE c e s).1
  | .num n, s, _, h => h
  | .nam w, s, _, _ => wrapF_sml _
  | .one w e, s, hw, h => one_sml (evE_wf e hw).1 hc w (evE_sml hc e hw h)
  | .two w e f, s, hw, h => two_sml hc w _ _
theorem scl_value : FnScope ["_law_doing_here", "_law_tree_here", "_law_one", "_law_other"] ["_law_doing_here", "_law_tree_here"] (defScope sl_value) := ⟨rfl, rfl, rfl, by decide +kernel, rfl, by decide +kernel, by decide +kernel⟩
theorem ok_l_value1 {n : Nat} (B : Cal P w K mg base "_law_value" (5 + n) ["_law_doing_here", "_law_tree_here"] (spVal n)) (T : Tx w K mg) : Cal P w K mg base "_law_value" (5+n+1) ["_law_doing_here", "_law_tree_here"] (spVal (n+1)) := by
  obtain ⟨fd, F⟩ : ∃ fd, Fun K "_law_value" "_law_value" sl_value 1001 fd := T.fn 103 _ rfl
  refine T.cal F 162 rfl (fun _ _ _ _ _ _ us hl => match us, hl with | [_, _], _ => rfl) ?_
  refine F.ok scl_value (fun vs H Q E h => ?_) (fun cdv A outer s H vs Q E hr h => ?_)
  · obtain ⟨A, c, s, f, v, e, rfl, _⟩ := h
    rfl
  obtain ⟨A, c, s, f, v, e, rfl, hD, hw, hc, hx, hok, hd, k⟩ := h
  refine ⟨_, (pss_cons (ps_if (pt_cmpR op_eq (pe_ix ix_tup (pv 1) pe_int (fun _ _ => rfl)) pe_str (nomark _)) (pss_one (ps_ret (pe_ix ix_tup (pv 1) pe_int (fun _ _ => rfl)))) pss_nil)
    (pss_cons (ps_if (pt_cmpR op_eq (pe_ix ix_tup (pv 1) pe_int (fun _ _ => rfl)) pe_str (nomark _)) (pss_one (ps_ret (pe_k (ok_l_wrap T) (hr.mono (by omega)) (pa_cons (pe_k (ok_l_named T) (hr.mono (by omega)) (pa_cons (pv 0) (pa_cons (pe_ix ix_tup (pv 1) pe_int (fun _ _ => rfl)) pa_nil))) pa_nil)))) pss_nil)
    (pss_cons (ps_set (i := 2) scl_value.nd rfl (Or.inl rfl) (pe_k B (hr.mono (by omega)) (pa_cons (pv 0) (pa_cons (pe_ix ix_tup (pv 1) pe_int (fun _ _ => rfl)) pa_nil))))
    (pss_cons (ps_if (pt_cmpR op_eq (pe_callB call_len_seq rfl (fr_len T) (by decide +kernel) (pa_cons (pv 1) pa_nil)) pe_int (nomark _)) (pss_one (ps_ret (pe_k (ok_l_of_one T) (hr.mono (by omega)) (pa_cons (pv 0) (pa_cons (pe_ix ix_tup (pv 1) pe_int (fun _ _ => rfl)) (pa_cons (pv 2) pa_nil)))))) pss_nil)
    (pss_cons (ps_set (i := 3) scl_value.nd rfl (Or.inl rfl) (pe_k B (hr.mono (by omega)) (pa_cons (pv 0) (pa_cons (pe_ix ix_tup (pv 1) pe_int (fun _ _ => rfl)) pa_nil))))
    (pss_one (ps_ret (pe_k (ok_l_of_two T) (hr.mono (by omega)) (pa_cons (pv 0) (pa_cons (pe_ix ix_tup (pv 1) pe_int (fun _ _ => rfl)) (pa_cons (pv 2) (pa_cons (pv 3) pa_nil)))))))))))), ?_⟩
  cases e with
  | num m =>
    obtain ⟨a, rfl, et⟩ := hx
    refine ⟨_, rfl, a, _, 0, _, rfl, rfl, SqT.of et, rfl, rfl, _, rfl, hit (fun _ => ?_) (fun c => absurd c (by decide +kernel))⟩
    exact ⟨_, rfl, a, _, 1, _, rfl, rfl, SqT.of et, rfl, k _ Kp.rfl hD⟩
  | nam m =>
    obtain ⟨a, rfl, et⟩ := hx
    refine ⟨_, rfl, a, _, 0, _, rfl, rfl, SqT.of et, rfl, rfl, _, rfl, hit (fun c => absurd c (by decide +kernel)) (fun _ => ?_)⟩
    refine ⟨_, rfl, a, _, 0, _, rfl, rfl, SqT.of et, rfl, rfl, _, rfl, hit (fun _ => ?_) (fun c => absurd c (by decide +kernel))⟩
    exact ⟨_, rfl, _, rfl, a, _, 1, _, rfl, rfl, SqT.of et, rfl, A, c, s, f, m, rfl, hD, hw, hc, hok, fun H' kp => ⟨_, rfl, k _ (kp.weak fun _ z => z.elim) (hD.kp0 kp)⟩⟩
  | one m e =>
    obtain ⟨a, x, rfl, et, h1⟩ := hx
    simp only [Ex.dp] at hd
    refine ⟨_, rfl, a, _, 0, _, rfl, rfl, SqT.of et, rfl, rfl, _, rfl, hit (fun c => absurd c (by cases m <;> decide +kernel)) (fun _ => ?_)⟩
    refine ⟨_, rfl, a, _, 0, _, rfl, rfl, SqT.of et, rfl, rfl, _, rfl, hit (fun c => absurd c (by cases m <;> decide +kernel)) (fun _ => ?_)⟩
    refine ⟨_, rfl, _, rfl, a, _, 1, _, rfl, rfl, SqT.of et, rfl, A, c, s, f, x, e, rfl, hD, hw, hc, h1, hok, by omega, fun H1 kp1 hD1 => ?_⟩
    have et1 := kp1.tup _ _ et
    refine ⟨_, rfl, a, _, rfl, .inr (SqT.of et1), rfl, _, rfl, iteT ?_⟩
    exact ⟨_, rfl, _, rfl, a, _, 0, _, rfl, rfl, SqT.of et1, rfl, _, rfl, A, c, _, f, m, _, rfl, hD1, (evE_wf e hw).1, hc, evE_sml hc e hw hok, fun H2 kp2 hD2 => k _ (kp1.trans kp2) hD2⟩
  | two m e g =>
    obtain ⟨a, x, y, rfl, et, h1, h2⟩ := hx
    simp only [Ex.dp] at hd
    refine ⟨_, rfl, a, _, 0, _, rfl, rfl, SqT.of et, rfl, rfl, _, rfl, hit (fun c => absurd c (by cases m <;> decide +kernel)) (fun _ => ?_)⟩
    refine ⟨_, rfl, a, _, 0, _, rfl, rfl, SqT.of et, rfl, rfl, _, rfl, hit (fun c => absurd c (by cases m <;> decide +kernel)) (fun _ => ?_)⟩
    refine ⟨_, rfl, _, rfl, a, _, 1, _, rfl, rfl, SqT.of et, rfl, A, c, s, f, x, e, rfl, hD, hw, hc, h1, hok.1, by omega, fun H1 kp1 hD1 => ?_⟩
    have et1 := kp1.tup _ _ et
    have hw1 := (evE_wf e hw).1
    refine ⟨_, rfl, a, _, rfl, .inr (SqT.of et1), rfl, _, rfl, iteF ?_⟩
    refine ⟨_, rfl, _, rfl, a, _, 2, _, rfl, rfl, SqT.of et1, rfl, A, c, _, f, y, g, rfl, hD1, hw1, hc, h2.kp kp1, hok.2, by omega, fun H2 kp2 hD2 => ?_⟩
    have et2 := kp2.tup _ _ et1
    exact ⟨_, rfl, _, rfl, a, _, 0, _, rfl, rfl, SqT.of et2, rfl, _, rfl, _, rfl, A, c, _, f, m, _, _, rfl, hD2, hc, evE_sml hc e hw hok.1, evE_sml hc g hw1 hok.2, k _ (kp1.trans kp2) hD2⟩
theorem ok_l_value (T : Tx w K mg) : ∀ n : Nat, Cal P w K mg base "_law_value" (5 + n) ["_law_doing_here", "_law_tree_here"] (spVal n)
  | 0 => by
    obtain ⟨fd, F⟩ : ∃ fd, Fun K "_law_value" "_law_value" sl_value 1001 fd := T.fn 103 _ rfl
    exact T.cal F 162 rfl (fun _ _ _ _ _ _ us hl => match us, hl with | [_, _], _ => rfl) (fnok_none fun vs H Q E h => by
      obtain ⟨A, c, s, f, v, e, _, _, _, _, _, _, d2, _⟩ := h
      have := e.dp_pos
      omega)
  | n + 1 => (ok_l_value1 (ok_l_value T n) T).mono (by omega)
end
end G
set_option Elab.async false
set_option linter.all false
set_option maxRecDepth 100000
set_option maxHeartbeats 4000000
namespace G
open PySem PySem.Spec PyProof.Rows L2
def spSet : Sp := fun vs H Q _ => ∃ (A : LA) (c : Cfg) (s : S) (f : Int) (w : Nm) (v : Int), vs = [.ref A.d, .str w.str, .int v] ∧ LD H A c s f ∧ WfS c s ∧ w ∈ Nm.sets ∧ ∀ H', Kp (Md A) H H' → LD H' A c (setF c s w v) f → Q .non H'
def spMake : Sp := fun vs H Q _ => ∃ (A : LA) (c : Cfg) (s : S) (f k x y v : Int), vs = [.ref A.d, .int k, .int x, .int y, .int v] ∧ LD H A c s f ∧ WfS c s ∧ ∀ H', Kp (Md A) H H' → LD H' A c (makeF c s k x y v) f → Q .non H'
def spPush : Sp := fun vs H Q _ => ∃ (A : LA) (c : Cfg) (s : S) (f n a b : Int), vs = [.ref A.d, .int n, .int a, .int b] ∧ LD H A c s f ∧ ∀ H', Kp (Md A) H H' → LD H' A c (pushF s n a b) f → Q .non H'
def spLeave : Sp := fun vs H Q _ => ∃ (A : LA) (c : Cfg) (s : S) (f : Int), vs = [.ref A.d] ∧ LD H A c s f ∧ WfS c s ∧ WfC c ∧ ∀ H', Kp (Md A) H H' → LD H' A c { s with gone := true } f → Q .non H'
def spSayL : Sp := fun vs H Q _ => ∃ (A : LA) (c : Cfg) (s : S) (f v : Int), vs = [.ref A.d, .int v] ∧ LD H A c s f ∧ WfS c s ∧ ∀ H', Kp (Md A) H H' → LD H' A c (sayF s v) f → Q .non H'
def spPaid : Sp := fun vs H Q _ => ∃ (A : LA) (c : Cfg) (s : S) (f : Int), vs = [.ref A.d] ∧ LD H A c s f ∧ ∀ H', Kp (Md A) H H' → LD H' A c s (f - 1) → Q (.bl (decide (f - 1 ≥ 0))) H'
theorem inV_int (z : Int) (ws : List Int) : inV (.int z) (ws.map V.int) = decide (z ∈ ws) := by
  induction ws with
  | nil => rfl
  | cons y r ih =>
    unfold inV at ih ⊢
    rw [List.map_cons, List.any_cons, ih]
    by_cases e : z = y
    · subst e
      simp [eqV]
    · simp [eqV, e, Ne.symm e, beq_iff_eq, List.mem_cons]
theorem list_step {α : Type} (g : α → α) {l : List α} {i : Nat} {b : α} (h : l[i]? = some b) : ((l.take i).map g ++ l.drop i)[i]? = some b ∧ ((l.take i).map g ++ l.drop i).set i (g b) = (l.take (i + 1)).map g ++ l.drop (i + 1) := by
  obtain ⟨hi, hb⟩ := List.getElem?_eq_some_iff.mp h
  have hl : ((l.take i).map g).length = i := by rw [List.length_map, List.length_take]; omega
  have e : l.drop i = b :: l.drop (i + 1) := by rw [← hb]; exact List.drop_eq_getElem_cons hi
  constructor
  · rw [List.getElem?_append_right (by omega), hl, e]
    simp
  · rw [e, List.set_append_right _ _ (by omega), hl]
    simp only [Nat.sub_self, List.set_cons_zero]
    rw [List.take_add_one, h, List.map_append]
    simp
theorem List.set_getElem?_self' {α : Type} {l : List α} {i : Nat} {b : α} (h : l[i]? = some b) : l.set i b = l := by
  apply List.ext_getElem?
  intro j
  by_cases z : i = j
  · subst z
    rw [List.getElem?_set_self (List.getElem?_eq_some_iff.mp h).1, h]
  · rw [List.getElem?_set_ne z]
section
variable {P : Program} {w : World} {K : PySem.W.Frag} {mg : Str → Option Value} {base : Heap}
theorem scl_set : FnScope ["_law_doing_here", "_law_word_here", "_law_value_here", "_law_body_here", "_law_cells"] ["_law_doing_here", "_law_word_here", "_law_value_here"] (defScope sl_set) := ⟨rfl, rfl, rfl, by decide +kernel, rfl, by decide +kernel, by decide +kernel⟩
theorem ok_l_set (T : Tx w K mg) : Cal P w K mg base "_law_set" 2 ["_law_doing_here", "_law_word_here", "_law_value_here"] spSet := by
  obtain ⟨fd, F⟩ : ∃ fd, Fun K "_law_set" "_law_set" sl_set 959 fd := T.fn 97 _ rfl
  refine T.cal F 156 rfl (fun _ _ _ _ _ _ us hl => match us, hl with | [_, _, _], _ => rfl) ?_
  refine F.ok scl_set (fun vs H Q E h => ?_) (fun cdv A outer s H vs Q E hr h => ?_)
  · obtain ⟨A, c, s, f, w, v, rfl, _⟩ := h
    rfl
  obtain ⟨A, c, s, f, w, v, rfl, hD, hw, hm, k⟩ := h
  have hu := hu_of hr
  refine ⟨_, (pss_cons (ps_set (i := 3) scl_set.nd rfl (Or.inl rfl) (pe_ix ix_list (pe_dget hu (pv 0) pe_str (fun _ _ => rfl)) (pe_dget hu (pv 0) pe_str (fun _ _ => rfl)) (fun _ _ => rfl)))
    (pss_one (ps_if (pt_cmpR op_eq (pv 1) pe_str (nomark _)) (pss_one (ps_asg (pe_k (ok_l_near T) (hr.mono (by decide)) (pa_cons (pv 2) pa_nil)) (pg_sub (pv 3) pe_int set_list))) (pss_one (ps_if (pt_cmpR op_eq (pv 1) pe_str (nomark _)) (pss_one (ps_asg (pe_k (ok_l_near T) (hr.mono (by decide)) (pa_cons (pv 2) pa_nil)) (pg_sub (pv 3) pe_int set_list))) (pss_one (ps_if (pt_cmpR op_eq (pe_ix ix_str (pv 1) pe_int (fun _ _ => rfl)) pe_str (nomark _)) (pss_cons (ps_set (i := 4) scl_set.nd rfl (Or.inl rfl) (pe_callTy call_list_of rfl (fr_list T) (by decide +kernel) (pa_cons (pe_ix ix_list (pv 3) pe_int (fun _ _ => rfl)) pa_nil)))
    (pss_cons (ps_asg (pv 2) (pg_sub (pv 4) (pe_callTy call_int_str rfl (fr_int T) (by decide +kernel) (pa_cons (pe_ix ix_str (pv 1) pe_int (fun _ _ => rfl)) pa_nil)) set_list))
    (pss_one (ps_asg (pe_callTy call_tuple_of rfl (fr_tuple T) (by decide +kernel) (pa_cons (pv 4) pa_nil)) (pg_sub (pv 3) pe_int set_list))))) (pss_one (ps_asg (pv 2) (pg_sub (pe_dget hu (pv 0) pe_str (fun _ _ => rfl)) (pe_callTy call_int_str rfl (fr_int T) (by decide +kernel) (pa_cons (pe_ix ix_str (pv 1) pe_int (fun _ _ => rfl)) pa_nil)) set_list)))))))))), ?_⟩
  obtain ⟨p, cc, hp, hpv, e1, e2⟩ := hD.me hw
  have q := hw.bod
  have hcl := q.cl
  have hsl := hw.sh
  refine ⟨_, rfl, A.d, _, rfl, hD.key doK_bo, _, rfl, A.d, _, rfl, hD.key doK_at, A.bo, _, _, _, rfl, rfl, SqL.of hD.bo, atI_of rfl hpv, ?_⟩
  have pd : ∀ {H' : Hp} {b : Bod} {c2 : Addr}, Kp M0 H H' → H' c2 = some (.tup (b.cells.map V.int)) → putB c s b = setF c s w v → Q .non (upd H' p (.lst (blV b c2))) := fun kp hc2 e => by
    obtain ⟨h1, h2⟩ := (hD.kp0 kp).setBl hp hc2
    exact k _ ((kp.weak fun _ z => z.elim).trans h2) (by rw [← e]; exact h1)
  simp only [Nm.sets, List.mem_cons, List.not_mem_nil, or_false] at hm
  rcases hm with rfl | rfl | rfl | rfl | rfl | rfl | rfl | rfl | rfl | rfl | rfl | rfl | rfl | rfl
  · -- dx
    exact ⟨_, rfl, rfl, _, rfl, hit (fun _ => ⟨_, rfl, v, rfl, _, rfl, p, blV (bodF c s) cc, 4, 4, rfl, rfl, e1, rfl, pd Kp.rfl (b := { bodF c s with dx := nearF v }) e2 rfl⟩) (fun c => absurd c (by decide +kernel))⟩
  · -- dy
    refine ⟨_, rfl, rfl, _, rfl, hit (fun c => absurd c (by decide +kernel)) (fun _ => ?_)⟩
    exact ⟨_, rfl, rfl, _, rfl, hit (fun _ => ⟨_, rfl, v, rfl, _, rfl, p, blV (bodF c s) cc, 5, 5, rfl, rfl, e1, rfl, pd Kp.rfl (b := { bodF c s with dy := nearF v }) e2 rfl⟩) (fun c => absurd c (by decide +kernel))⟩
  · -- c0
    refine ⟨_, rfl, rfl, _, rfl, hit (fun c => absurd c (by decide +kernel)) (fun _ => ?_)⟩
    refine ⟨_, rfl, rfl, _, rfl, hit (fun c => absurd c (by decide +kernel)) (fun _ => ?_)⟩
    refine ⟨_, rfl, _, 0, _, rfl, rfl, (by decide +kernel), (by rfl), rfl, _, rfl, hit (fun _ => ?_) (fun c => absurd c (by decide +kernel))⟩
    refine ⟨_, rfl, p, blV (bodF c s) cc, 7, _, rfl, rfl, SqL.of e1, rfl, cc, _, rfl, .inr (SqT.of e2), fun l nl => ?_⟩
    have k1 : Kp M0 H (upd H l (.lst ((bodF c s).cells.map V.int))) := Kp.new nl
    refine ⟨_, rfl, _, rfl, _, rfl, _, 1, _, rfl, rfl, (by decide +kernel), (by rfl), _, 0, rfl, (by decide +kernel), (by decide +kernel), l, _, _, 0, rfl, rfl, upd_same, ?_, ?_⟩
    · unfold ixN
      rw [List.length_map, hcl]
      rfl
    rw [upd_upd, show ((bodF c s).cells.map V.int).set 0 (.int v) = ((bodF c s).cells.set 0 v).map V.int by rw [List.map_set]]
    have k2 : Kp M0 H (upd H l (.lst (((bodF c s).cells.set 0 v).map V.int))) := Kp.new nl
    refine ⟨_, rfl, l, _, rfl, .inl ⟨SqL.of upd_same, fun t nt => ?_⟩⟩
    have k3 := k2.trans (Kp.new (M := M0) (o := .tup (((bodF c s).cells.set 0 v).map V.int)) nt)
    exact ⟨_, rfl, p, blV (bodF c s) cc, 7, 7, rfl, rfl, k3.keep _ _ e1 id, rfl, pd k3 (b := { bodF c s with cells := (bodF c s).cells.set 0 v }) upd_same rfl⟩
  · -- c1
    refine ⟨_, rfl, rfl, _, rfl, hit (fun c => absurd c (by decide +kernel)) (fun _ => ?_)⟩
    refine ⟨_, rfl, rfl, _, rfl, hit (fun c => absurd c (by decide +kernel)) (fun _ => ?_)⟩
    refine ⟨_, rfl, _, 0, _, rfl, rfl, (by decide +kernel), (by rfl), rfl, _, rfl, hit (fun _ => ?_) (fun c => absurd c (by decide +kernel))⟩
    refine ⟨_, rfl, p, blV (bodF c s) cc, 7, _, rfl, rfl, SqL.of e1, rfl, cc, _, rfl, .inr (SqT.of e2), fun l nl => ?_⟩
    have k1 : Kp M0 H (upd H l (.lst ((bodF c s).cells.map V.int))) := Kp.new nl
    refine ⟨_, rfl, _, rfl, _, rfl, _, 1, _, rfl, rfl, (by decide +kernel), (by rfl), _, 1, rfl, (by decide +kernel), (by decide +kernel), l, _, _, 1, rfl, rfl, upd_same, ?_, ?_⟩
    · unfold ixN
      rw [List.length_map, hcl]
      rfl
    rw [upd_upd, show ((bodF c s).cells.map V.int).set 1 (.int v) = ((bodF c s).cells.set 1 v).map V.int by rw [List.map_set]]
    have k2 : Kp M0 H (upd H l (.lst (((bodF c s).cells.set 1 v).map V.int))) := Kp.new nl
    refine ⟨_, rfl, l, _, rfl, .inl ⟨SqL.of upd_same, fun t nt => ?_⟩⟩
    have k3 := k2.trans (Kp.new (M := M0) (o := .tup (((bodF c s).cells.set 1 v).map V.int)) nt)
    exact ⟨_, rfl, p, blV (bodF c s) cc, 7, 7, rfl, rfl, k3.keep _ _ e1 id, rfl, pd k3 (b := { bodF c s with cells := (bodF c s).cells.set 1 v }) upd_same rfl⟩
  · -- c2
    refine ⟨_, rfl, rfl, _, rfl, hit (fun c => absurd c (by decide +kernel)) (fun _ => ?_)⟩
    refine ⟨_, rfl, rfl, _, rfl, hit (fun c => absurd c (by decide +kernel)) (fun _ => ?_)⟩
    refine ⟨_, rfl, _, 0, _, rfl, rfl, (by decide +kernel), (by rfl), rfl, _, rfl, hit (fun _ => ?_) (fun c => absurd c (by decide +kernel))⟩
    refine ⟨_, rfl, p, blV (bodF c s) cc, 7, _, rfl, rfl, SqL.of e1, rfl, cc, _, rfl, .inr (SqT.of e2), fun l nl => ?_⟩
    have k1 : Kp M0 H (upd H l (.lst ((bodF c s).cells.map V.int))) := Kp.new nl
    refine ⟨_, rfl, _, rfl, _, rfl, _, 1, _, rfl, rfl, (by decide +kernel), (by rfl), _, 2, rfl, (by decide +kernel), (by decide +kernel), l, _, _, 2, rfl, rfl, upd_same, ?_, ?_⟩
    · unfold ixN
      rw [List.length_map, hcl]
      rfl
    rw [upd_upd, show ((bodF c s).cells.map V.int).set 2 (.int v) = ((bodF c s).cells.set 2 v).map V.int by rw [List.map_set]]
    have k2 : Kp M0 H (upd H l (.lst (((bodF c s).cells.set 2 v).map V.int))) := Kp.new nl
    refine ⟨_, rfl, l, _, rfl, .inl ⟨SqL.of upd_same, fun t nt => ?_⟩⟩
    have k3 := k2.trans (Kp.new (M := M0) (o := .tup (((bodF c s).cells.set 2 v).map V.int)) nt)
    exact ⟨_, rfl, p, blV (bodF c s) cc, 7, 7, rfl, rfl, k3.keep _ _ e1 id, rfl, pd k3 (b := { bodF c s with cells := (bodF c s).cells.set 2 v }) upd_same rfl⟩
  · -- c3
    refine ⟨_, rfl, rfl, _, rfl, hit (fun c => absurd c (by decide +kernel)) (fun _ => ?_)⟩
    refine ⟨_, rfl, rfl, _, rfl, hit (fun c => absurd c (by decide +kernel)) (fun _ => ?_)⟩
    refine ⟨_, rfl, _, 0, _, rfl, rfl, (by decide +kernel), (by rfl), rfl, _, rfl, hit (fun _ => ?_) (fun c => absurd c (by decide +kernel))⟩
    refine ⟨_, rfl, p, blV (bodF c s) cc, 7, _, rfl, rfl, SqL.of e1, rfl, cc, _, rfl, .inr (SqT.of e2), fun l nl => ?_⟩
    have k1 : Kp M0 H (upd H l (.lst ((bodF c s).cells.map V.int))) := Kp.new nl
    refine ⟨_, rfl, _, rfl, _, rfl, _, 1, _, rfl, rfl, (by decide +kernel), (by rfl), _, 3, rfl, (by decide +kernel), (by decide +kernel), l, _, _, 3, rfl, rfl, upd_same, ?_, ?_⟩
    · unfold ixN
      rw [List.length_map, hcl]
      rfl
    rw [upd_upd, show ((bodF c s).cells.map V.int).set 3 (.int v) = ((bodF c s).cells.set 3 v).map V.int by rw [List.map_set]]
    have k2 : Kp M0 H (upd H l (.lst (((bodF c s).cells.set 3 v).map V.int))) := Kp.new nl
    refine ⟨_, rfl, l, _, rfl, .inl ⟨SqL.of upd_same, fun t nt => ?_⟩⟩
    have k3 := k2.trans (Kp.new (M := M0) (o := .tup (((bodF c s).cells.set 3 v).map V.int)) nt)
    exact ⟨_, rfl, p, blV (bodF c s) cc, 7, 7, rfl, rfl, k3.keep _ _ e1 id, rfl, pd k3 (b := { bodF c s with cells := (bodF c s).cells.set 3 v }) upd_same rfl⟩
  · -- s0
    refine ⟨_, rfl, rfl, _, rfl, hit (fun c => absurd c (by decide +kernel)) (fun _ => ?_)⟩
    refine ⟨_, rfl, rfl, _, rfl, hit (fun c => absurd c (by decide +kernel)) (fun _ => ?_)⟩
    refine ⟨_, rfl, _, 0, _, rfl, rfl, (by decide +kernel), (by rfl), rfl, _, rfl, hit (fun c => absurd c (by decide +kernel)) (fun _ => ?_)⟩
    refine ⟨_, rfl, _, rfl, A.d, _, rfl, hD.key doK_sh, _, rfl, _, 1, _, rfl, rfl, (by decide +kernel), (by rfl), _, 0, rfl, (by decide +kernel), (by decide +kernel), A.sh, _, _, 0, rfl, rfl, hD.sh, ?_, ?_⟩
    · unfold ixN
      rw [List.length_map, hsl]
      rfl
    rw [show (s.sh.map V.int).set 0 (.int v) = (s.sh.set 0 v).map V.int by rw [List.map_set]]
    obtain ⟨h1, h2⟩ := hD.setSh (s.sh.set 0 v)
    exact k _ h2 h1
  · -- s1
    refine ⟨_, rfl, rfl, _, rfl, hit (fun c => absurd c (by decide +kernel)) (fun _ => ?_)⟩
    refine ⟨_, rfl, rfl, _, rfl, hit (fun c => absurd c (by decide +kernel)) (fun _ => ?_)⟩
    refine ⟨_, rfl, _, 0, _, rfl, rfl, (by decide +kernel), (by rfl), rfl, _, rfl, hit (fun c => absurd c (by decide +kernel)) (fun _ => ?_)⟩
    refine ⟨_, rfl, _, rfl, A.d, _, rfl, hD.key doK_sh, _, rfl, _, 1, _, rfl, rfl, (by decide +kernel), (by rfl), _, 1, rfl, (by decide +kernel), (by decide +kernel), A.sh, _, _, 1, rfl, rfl, hD.sh, ?_, ?_⟩
    · unfold ixN
      rw [List.length_map, hsl]
      rfl
    rw [show (s.sh.map V.int).set 1 (.int v) = (s.sh.set 1 v).map V.int by rw [List.map_set]]
    obtain ⟨h1, h2⟩ := hD.setSh (s.sh.set 1 v)
    exact k _ h2 h1
  · -- s2
    refine ⟨_, rfl, rfl, _, rfl, hit (fun c => absurd c (by decide +kernel)) (fun _ => ?_)⟩
    refine ⟨_, rfl, rfl, _, rfl, hit (fun c => absurd c (by decide +kernel)) (fun _ => ?_)⟩
    refine ⟨_, rfl, _, 0, _, rfl, rfl, (by decide +kernel), (by rfl), rfl, _, rfl, hit (fun c => absurd c (by decide +kernel)) (fun _ => ?_)⟩
    refine ⟨_, rfl, _, rfl, A.d, _, rfl, hD.key doK_sh, _, rfl, _, 1, _, rfl, rfl, (by decide +kernel), (by rfl), _, 2, rfl, (by decide +kernel), (by decide +kernel), A.sh, _, _, 2, rfl, rfl, hD.sh, ?_, ?_⟩
    · unfold ixN
      rw [List.length_map, hsl]
      rfl
    rw [show (s.sh.map V.int).set 2 (.int v) = (s.sh.set 2 v).map V.int by rw [List.map_set]]
    obtain ⟨h1, h2⟩ := hD.setSh (s.sh.set 2 v)
    exact k _ h2 h1
  · -- s3
    refine ⟨_, rfl, rfl, _, rfl, hit (fun c => absurd c (by decide +kernel)) (fun _ => ?_)⟩
    refine ⟨_, rfl, rfl, _, rfl, hit (fun c => absurd c (by decide +kernel)) (fun _ => ?_)⟩
    refine ⟨_, rfl, _, 0, _, rfl, rfl, (by decide +kernel), (by rfl), rfl, _, rfl, hit (fun c => absurd c (by decide +kernel)) (fun _ => ?_)⟩
    refine ⟨_, rfl, _, rfl, A.d, _, rfl, hD.key doK_sh, _, rfl, _, 1, _, rfl, rfl, (by decide +kernel), (by rfl), _, 3, rfl, (by decide +kernel), (by decide +kernel), A.sh, _, _, 3, rfl, rfl, hD.sh, ?_, ?_⟩
    · unfold ixN
      rw [List.length_map, hsl]
      rfl
    rw [show (s.sh.map V.int).set 3 (.int v) = (s.sh.set 3 v).map V.int by rw [List.map_set]]
    obtain ⟨h1, h2⟩ := hD.setSh (s.sh.set 3 v)
    exact k _ h2 h1
  · -- s4
    refine ⟨_, rfl, rfl, _, rfl, hit (fun c => absurd c (by decide +kernel)) (fun _ => ?_)⟩
    refine ⟨_, rfl, rfl, _, rfl, hit (fun c => absurd c (by decide +kernel)) (fun _ => ?_)⟩
    refine ⟨_, rfl, _, 0, _, rfl, rfl, (by decide +kernel), (by rfl), rfl, _, rfl, hit (fun c => absurd c (by decide +kernel)) (fun _ => ?_)⟩
    refine ⟨_, rfl, _, rfl, A.d, _, rfl, hD.key doK_sh, _, rfl, _, 1, _, rfl, rfl, (by decide +kernel), (by rfl), _, 4, rfl, (by decide +kernel), (by decide +kernel), A.sh, _, _, 4, rfl, rfl, hD.sh, ?_, ?_⟩
    · unfold ixN
      rw [List.length_map, hsl]
      rfl
    rw [show (s.sh.map V.int).set 4 (.int v) = (s.sh.set 4 v).map V.int by rw [List.map_set]]
    obtain ⟨h1, h2⟩ := hD.setSh (s.sh.set 4 v)
    exact k _ h2 h1
  · -- s5
    refine ⟨_, rfl, rfl, _, rfl, hit (fun c => absurd c (by decide +kernel)) (fun _ => ?_)⟩
    refine ⟨_, rfl, rfl, _, rfl, hit (fun c => absurd c (by decide +kernel)) (fun _ => ?_)⟩
    refine ⟨_, rfl, _, 0, _, rfl, rfl, (by decide +kernel), (by rfl), rfl, _, rfl, hit (fun c => absurd c (by decide +kernel)) (fun _ => ?_)⟩
    refine ⟨_, rfl, _, rfl, A.d, _, rfl, hD.key doK_sh, _, rfl, _, 1, _, rfl, rfl, (by decide +kernel), (by rfl), _, 5, rfl, (by decide +kernel), (by decide +kernel), A.sh, _, _, 5, rfl, rfl, hD.sh, ?_, ?_⟩
    · unfold ixN
      rw [List.length_map, hsl]
      rfl
    rw [show (s.sh.map V.int).set 5 (.int v) = (s.sh.set 5 v).map V.int by rw [List.map_set]]
    obtain ⟨h1, h2⟩ := hD.setSh (s.sh.set 5 v)
    exact k _ h2 h1
  · -- s6
    refine ⟨_, rfl, rfl, _, rfl, hit (fun c => absurd c (by decide +kernel)) (fun _ => ?_)⟩
    refine ⟨_, rfl, rfl, _, rfl, hit (fun c => absurd c (by decide +kernel)) (fun _ => ?_)⟩
    refine ⟨_, rfl, _, 0, _, rfl, rfl, (by decide +kernel), (by rfl), rfl, _, rfl, hit (fun c => absurd c (by decide +kernel)) (fun _ => ?_)⟩
    refine ⟨_, rfl, _, rfl, A.d, _, rfl, hD.key doK_sh, _, rfl, _, 1, _, rfl, rfl, (by decide +kernel), (by rfl), _, 6, rfl, (by decide +kernel), (by decide +kernel), A.sh, _, _, 6, rfl, rfl, hD.sh, ?_, ?_⟩
    · unfold ixN
      rw [List.length_map, hsl]
      rfl
    rw [show (s.sh.map V.int).set 6 (.int v) = (s.sh.set 6 v).map V.int by rw [List.map_set]]
    obtain ⟨h1, h2⟩ := hD.setSh (s.sh.set 6 v)
    exact k _ h2 h1
  · -- s7
    refine ⟨_, rfl, rfl, _, rfl, hit (fun c => absurd c (by decide +kernel)) (fun _ => ?_)⟩
    refine ⟨_, rfl, rfl, _, rfl, hit (fun c => absurd c (by decide +kernel)) (fun _ => ?_)⟩
    refine ⟨_, rfl, _, 0, _, rfl, rfl, (by decide +kernel), (by rfl), rfl, _, rfl, hit (fun c => absurd c (by decide +kernel)) (fun _ => ?_)⟩
    refine ⟨_, rfl, _, rfl, A.d, _, rfl, hD.key doK_sh, _, rfl, _, 1, _, rfl, rfl, (by decide +kernel), (by rfl), _, 7, rfl, (by decide +kernel), (by decide +kernel), A.sh, _, _, 7, rfl, rfl, hD.sh, ?_, ?_⟩
    · unfold ixN
      rw [List.length_map, hsl]
      rfl
    rw [show (s.sh.map V.int).set 7 (.int v) = (s.sh.set 7 v).map V.int by rw [List.map_set]]
    obtain ⟨h1, h2⟩ := hD.setSh (s.sh.set 7 v)
    exact k _ h2 h1
theorem scl_make : FnScope ["_law_doing_here", "_law_kind", "_law_x", "_law_y", "_law_value_here"] ["_law_doing_here", "_law_kind", "_law_x", "_law_y", "_law_value_here"] (defScope sl_make) := ⟨rfl, rfl, rfl, by decide +kernel, rfl, by decide +kernel, by decide +kernel⟩
theorem ok_l_make (T : Tx w K mg) : Cal P w K mg base "_law_make" 1 ["_law_doing_here", "_law_kind", "_law_x", "_law_y", "_law_value_here"] spMake := by
  obtain ⟨fd, F⟩ : ∃ fd, Fun K "_law_make" "_law_make" sl_make 966 fd := T.fn 98 _ rfl
  refine T.cal F 157 rfl (fun _ _ _ _ _ _ us hl => match us, hl with | [_, _, _, _, _], _ => rfl) ?_
  refine F.ok scl_make (fun vs H Q E h => ?_) (fun cdv A outer s H vs Q E hr h => ?_)
  · obtain ⟨A, c, s, f, kk, x, y, v, rfl, _⟩ := h
    rfl
  obtain ⟨A, c, s, f, kk, x, y, v, rfl, hD, hw, k⟩ := h
  unfold makeF at k
  have hu := hu_of hr
  refine ⟨_, (pss_one (ps_if (PW.pt (pw_and (pt_cmpR op_lt (pv 1) (pe_dget hu (pv 0) pe_str (fun _ _ => rfl)) (nomark _)) (pw_and1 (pt_cmpR op_lt (pe_callB call_len_seq rfl (fr_len T) (by decide +kernel) (pa_cons (pe_dget hu (pv 0) pe_str (fun _ _ => rfl)) pa_nil)) pe_int (nomark _))))) (pss_one (ps_expr (pe_bm PySem.F.plainAttrs_list PySem.F.slot_list_append PySem.F.type_list_append mt_append (pe_dget hu (pv 0) pe_str (fun _ _ => rfl)) (pa_cons (pe_tup (pa_cons (pv 1) (pa_cons (pv 2) (pa_cons (pv 3) (pa_cons (pe_ix ix_list (pe_ix ix_list (pe_dget hu (pv 0) pe_str (fun _ _ => rfl)) (pe_dget hu (pv 0) pe_str (fun _ _ => rfl)) (fun _ _ => rfl)) pe_int (fun _ _ => rfl)) (pa_cons (pv 4) pa_nil)))))) pa_nil)))) pss_nil)), ?_⟩
  obtain ⟨p, cc, hp, hpv, e1, e2⟩ := hD.me hw
  obtain ⟨avs, ea, hA⟩ := hD.as
  have hl := hA.len
  have ha := hw.as
  refine ⟨_, rfl, _, rfl, A.d, _, rfl, hD.key doK_kinds, _, _, rfl, rfl, _, rfl, hit (fun z => ?_) (fun z => ?_)⟩
  · have z' : kk < c.nk := of_decide_eq_true z
    refine ⟨_, rfl, A.d, _, rfl, hD.key doK_as, A.as, _, rfl, .inl (SqL.of ea), _, _, rfl, rfl, _, rfl, hit (fun z2 => ?_) (fun z2 => ?_)⟩
    · have z2' : (avs.length : Int) < 32 := of_decide_eq_true z2
      rw [if_pos ⟨by omega, z'⟩] at k
      refine ⟨_, rfl, A.d, _, rfl, hD.key doK_as, .inl ⟨rfl, _, SqL.of ea⟩, ?_⟩
      refine ⟨_, rfl, _, rfl, _, rfl, _, rfl, A.d, _, rfl, hD.key doK_bo, _, rfl, A.d, _, rfl, hD.key doK_at, A.bo, _, _, _, rfl, rfl, SqL.of hD.bo, atI_of rfl hpv, p, blV (bodF c s) cc, 6, _, rfl, rfl, SqL.of e1, rfl, _, rfl, (by show 5 ≤ sizeLine; decide), fun t nt => ?_⟩
      have kn : Kp M0 H (upd H t (.tup [.int kk, .int x, .int y, .int (bodF c s).owner, .int v])) := Kp.new nt
      have hD1 := hD.kp0 kn
      obtain ⟨h1, h2⟩ := hD1.setAs (vs := avs ++ [.ref t]) (l := s.asked ++ [[kk, x, y, (bodF c s).owner, v]]) (All2.snoc (hA.mono fun _ _ q => q.kp kn) ⟨rfl, t, rfl, upd_same⟩)
      exact ⟨A.as, avs, .ref t, rfl, rfl, kn.keep _ _ ea id, Nat.lt_of_le_of_lt (show avs.length ≤ 100 by omega) (by decide), k _ ((kn.weak fun _ z => z.elim).trans h2) h1⟩
    · have z2' : ¬ (avs.length : Int) < 32 := of_decide_eq_false z2
      rw [if_neg (fun h => by omega)] at k
      exact k _ Kp.rfl hD
  · have z' : ¬ kk < c.nk := of_decide_eq_false z
    rw [if_neg (fun h => z' h.2)] at k
    exact iteF (k _ Kp.rfl hD)
theorem scl_say : FnScope ["_law_doing_here", "_law_value_here"] ["_law_doing_here", "_law_value_here"] (defScope sl_say) := ⟨rfl, rfl, rfl, by decide +kernel, rfl, by decide +kernel, by decide +kernel⟩
theorem ok_l_say (T : Tx w K mg) : Cal P w K mg base "_law_say" 1 ["_law_doing_here", "_law_value_here"] spSayL := by
  obtain ⟨fd, F⟩ : ∃ fd, Fun K "_law_say" "_law_say" sl_say 987 fd := T.fn 101 _ rfl
  refine T.cal F 160 rfl (fun _ _ _ _ _ _ us hl => match us, hl with | [_, _], _ => rfl) ?_
  refine F.ok scl_say (fun vs H Q E h => ?_) (fun cdv A outer s H vs Q E hr h => ?_)
  · obtain ⟨A, c, s, f, v, rfl, _⟩ := h
    rfl
  obtain ⟨A, c, s, f, v, rfl, hD, hw, k⟩ := h
  unfold sayF at k
  have hu := hu_of hr
  refine ⟨_, (pss_one (ps_if (pt_cmpR op_lt (pe_callB call_len_seq rfl (fr_len T) (by decide +kernel) (pa_cons (pe_dget hu (pv 0) pe_str (fun _ _ => rfl)) pa_nil)) pe_int (nomark _)) (pss_one (ps_expr (pe_bm PySem.F.plainAttrs_list PySem.F.slot_list_append PySem.F.type_list_append mt_append (pe_dget hu (pv 0) pe_str (fun _ _ => rfl)) (pa_cons (pv 1) pa_nil)))) pss_nil)), ?_⟩
  refine ⟨_, rfl, A.d, _, rfl, hD.key doK_sa, A.sa, _, rfl, .inl (SqL.of hD.sa), _, _, rfl, rfl, _, rfl, ?_⟩
  rw [List.length_map]
  refine hit (fun z => ?_) (fun z => ?_)
  · have z' : (s.said.length : Int) < 64 := of_decide_eq_true z
    rw [if_pos (by omega)] at k
    obtain ⟨h1, h2⟩ := hD.setSa (s.said ++ [v])
    refine ⟨_, rfl, A.d, _, rfl, hD.key doK_sa, .inl ⟨rfl, _, SqL.of hD.sa⟩, _, rfl, A.sa, _, .int v, rfl, rfl, hD.sa, Nat.lt_of_le_of_lt (show _ ≤ 100 by rw [List.length_map]; omega) (by decide), ?_⟩
    rw [show s.said.map V.int ++ [.int v] = (s.said ++ [v]).map V.int by rw [List.map_append]; rfl]
    exact k _ h2 h1
  · have z' : ¬ (s.said.length : Int) < 64 := of_decide_eq_false z
    rw [if_neg (by omega)] at k
    exact k _ Kp.rfl hD
theorem scl_paid : FnScope ["_law_doing_here"] ["_law_doing_here"] (defScope sl_paid) := ⟨rfl, rfl, rfl, by decide +kernel, rfl, by decide +kernel, by decide +kernel⟩
theorem ok_l_paid (T : Tx w K mg) : Cal P w K mg base "_law_paid" 1 ["_law_doing_here"] spPaid := by
  obtain ⟨fd, F⟩ : ∃ fd, Fun K "_law_paid" "_law_paid" sl_paid 994 fd := T.fn 102 _ rfl
  refine T.cal F 161 rfl (fun _ _ _ _ _ _ us hl => match us, hl with | [_], _ => rfl) ?_
  refine F.ok scl_paid (fun vs H Q E h => ?_) (fun cdv A outer s H vs Q E hr h => ?_)
  · obtain ⟨A, c, s, f, rfl, _⟩ := h
    rfl
  obtain ⟨A, c, s, f, rfl, hD, k⟩ := h
  have hu := hu_of hr
  refine ⟨_, (pss_cons (ps_dput hu (pv 0) pe_str (pe_op op_sub (pe_dget hu (pv 0) pe_str (fun _ _ => rfl)) pe_int) rfl)
    (pss_one (ps_ret (pe_cmpR op_ge (pe_dget hu (pv 0) pe_str (fun _ _ => rfl)) pe_int (nomark _))))), ?_⟩
  refine ⟨_, rfl, A.d, _, rfl, hD.key doK_fuel, _, _, rfl, rfl, _, rfl, A.d, _, rfl, DPut.k (k := Sum.inr "fuel") hD.d (by show (14 : Nat) < sizeLine; decide), ?_⟩
  rw [doK_putFuel]
  have hD2 := hD.setD s.seed (f - 1)
  exact ⟨_, rfl, A.d, _, rfl, hD2.key doK_fuel, _, _, rfl, rfl, k _ (hD.kpD _) hD2⟩
theorem scl_leave : FnScope ["_law_doing_here", "_law_number"] ["_law_doing_here"] (defScope sl_leave) := ⟨rfl, rfl, rfl, by decide +kernel, rfl, by decide +kernel, by decide +kernel⟩
theorem ok_l_leave (T : Tx w K mg) : Cal P w K mg base "_law_leave" 1 ["_law_doing_here"] spLeave := by
  obtain ⟨fd, F⟩ : ∃ fd, Fun K "_law_leave" "_law_leave" sl_leave 980 fd := T.fn 100 _ rfl
  refine T.cal F 159 rfl (fun _ _ _ _ _ _ us hl => match us, hl with | [_], _ => rfl) ?_
  refine F.ok scl_leave (fun vs H Q E h => ?_) (fun cdv A outer s H vs Q E hr h => ?_)
  · obtain ⟨A, c, s, f, rfl, _⟩ := h
    rfl
  obtain ⟨A, c, s, f, rfl, hD, hw, hc, k⟩ := h
  have hu := hu_of hr
  refine ⟨_, (pss_cons (ps_set (i := 1) scl_leave.nd rfl (Or.inl rfl) (pe_ix ix_list (pe_ix ix_list (pe_dget hu (pv 0) pe_str (fun _ _ => rfl)) (pe_dget hu (pv 0) pe_str (fun _ _ => rfl)) (fun _ _ => rfl)) pe_int (fun _ _ => rfl)))
    (pss_one (ps_if (pt_cmpR op_notIn_seq (pv 1) (pe_dget hu (pv 0) pe_str (fun _ _ => rfl)) (by rfl)) (pss_one (ps_expr (pe_bm PySem.F.plainAttrs_list PySem.F.slot_list_append PySem.F.type_list_append mt_append (pe_dget hu (pv 0) pe_str (fun _ _ => rfl)) (pa_cons (pv 1) pa_nil)))) pss_nil))), ?_⟩
  obtain ⟨p, cc, hp, hpv, e1, e2⟩ := hD.me hw
  have hn := hw.num
  have hll := hc.ll
  refine ⟨_, rfl, A.d, _, rfl, hD.key doK_bo, _, rfl, A.d, _, rfl, hD.key doK_at, A.bo, _, _, _, rfl, rfl, SqL.of hD.bo, atI_of rfl hpv, p, blV (bodF c s) cc, 0, _, rfl, rfl, SqL.of e1, rfl, ?_⟩
  refine ⟨_, rfl, _, rfl, A.d, _, rfl, hD.key doK_lv, A.lv, _, rfl, .inl (SqL.of hD.lv), rfl, flat_ints _, _, rfl, ?_⟩
  rw [inV_int, hn]
  refine hit (fun z => ?_) (fun z => ?_)
  · have z' : c.num ∉ lvF c s := by simpa using z
    have e0 : lvF c s = c.lv0 ∧ lvF c { s with gone := true } = c.lv0 ++ [c.num] := by
      unfold lvF at z' ⊢
      by_cases q : s.gone = true ∧ c.num ∉ c.lv0
      · rw [if_pos q] at z'
        exact absurd (List.mem_append_right _ (List.mem_singleton.mpr rfl)) z'
      · rw [if_neg q] at z'
        rw [if_neg q, if_pos ⟨rfl, z'⟩]
        exact ⟨rfl, rfl⟩
    obtain ⟨h1, h2⟩ := hD.setLv { s with gone := true } rfl rfl rfl rfl rfl
    refine ⟨_, rfl, A.d, _, rfl, hD.key doK_lv, .inl ⟨rfl, _, SqL.of hD.lv⟩, _, rfl, A.lv, _, _, rfl, rfl, hD.lv, Nat.lt_of_le_of_lt (show _ ≤ 100 by rw [List.length_map, e0.1]; omega) (by decide), ?_⟩
    rw [show (lvF c s).map V.int ++ [.int c.num] = (lvF c { s with gone := true }).map V.int by rw [e0.1, e0.2, List.map_append]; rfl]
    exact k _ h2 h1
  · have z' : c.num ∈ lvF c s := by simpa using z
    have e0 : lvF c { s with gone := true } = lvF c s := by
      unfold lvF at z' ⊢
      by_cases q : s.gone = true ∧ c.num ∉ c.lv0
      · rw [if_pos q, if_pos ⟨rfl, q.2⟩]
      · rw [if_neg q] at z'
        rw [if_neg q, if_neg (fun y => y.2 z')]
    exact k _ Kp.rfl ⟨hD.d, hD.sh, hD.bo, hD.bl, hD.sa, hD.as, by rw [e0]; exact hD.lv, hD.rt, hD.it, hD.nd⟩
theorem scl_push : FnScope ["_law_doing_here", "_law_number", "_law_across", "_law_along", "_law_body_here"] ["_law_doing_here", "_law_number", "_law_across", "_law_along"] (defScope sl_push) := ⟨rfl, rfl, rfl, by decide +kernel, rfl, by decide +kernel, by decide +kernel⟩
theorem ok_l_push (T : Tx w K mg) : Cal P w K mg base "_law_push" 2 ["_law_doing_here", "_law_number", "_law_across", "_law_along"] spPush := by
  obtain ⟨fd, F⟩ : ∃ fd, Fun K "_law_push" "_law_push" sl_push 973 fd := T.fn 99 _ rfl
  refine T.cal F 158 rfl (fun _ _ _ _ _ _ us hl => match us, hl with | [_, _, _, _], _ => rfl) ?_
  refine F.ok scl_push (fun vs H Q E h => ?_) (fun cdv A outer s H vs Q E hr h => ?_)
  · obtain ⟨A, c, s, f, n, a, b, rfl, _⟩ := h
    rfl
  obtain ⟨A, c, s, f, n, a, b, rfl, hD, k⟩ := h
  have hu := hu_of hr
  refine ⟨_, (pss_one (ps_for PassesOwn.never rfl (pi_list (pe_dget hu (pv 0) pe_str (fun _ _ => rfl))) (pg_name (i := 4) scl_push.nd rfl (Or.inl rfl))
      (pss_one (ps_if (pt_cmpR op_eq (pe_ix ix_list (pv 4) pe_int (fun _ _ => rfl)) (pv 1) (nomark _)) (pss_cons (ps_asg (pe_k (ok_l_near T) (hr.mono (by decide)) (pa_cons (pe_op op_add (pe_ix ix_list (pv 4) pe_int (fun _ _ => rfl)) (pv 2)) pa_nil)) (pg_sub (pv 4) pe_int set_list))
    (pss_one (ps_asg (pe_k (ok_l_near T) (hr.mono (by decide)) (pa_cons (pe_op op_add (pe_ix ix_list (pv 4) pe_int (fun _ _ => rfl)) (pv 3)) pa_nil)) (pg_sub (pv 4) pe_int set_list)))) pss_nil)))), ?_⟩
  refine ⟨_, rfl, A.d, _, rfl, hD.key doK_bo, A.bo, rfl, ⟨_, SqL.of hD.bo⟩, ?_⟩
  refine for_list (xs := A.bl.map V.ref) (fun i σ' H' => ∃ k1, σ' = [some (.ref A.d), some (.int n), some (.int a), some (.int b), k1] ∧ Kp (Md A) H H' ∧ LD H' A c { s with bs := (s.bs.take i).map (shoveB n a b) ++ s.bs.drop i } f) ?_ ?_ ?_ ?_
  · exact ⟨none, rfl, Kp.rfl, hD⟩
  · rintro i σ' H' _ ⟨_, _, _, h⟩
    exact SqL.of h.bo
  · rintro i x σ' H1 hi ⟨k1, rfl, kp1, h1⟩
    rw [List.getElem?_map] at hi
    cases q : A.bl[i]? with
    | none => rw [q] at hi; cases hi
    | some p =>
      rw [q] at hi
      cases hi
      obtain ⟨bd, eb0, _⟩ := hD.bl.getL q
      obtain ⟨eb, es⟩ := list_step (shoveB n a b) eb0
      obtain ⟨b', eb', cc, e1, e2⟩ := h1.bl.getL q
      have ebb : b' = bd := Option.some.inj (eb'.symm.trans eb)
      subst ebb
      refine ⟨_, rfl, p, blV b' cc, 0, _, rfl, rfl, SqL.of e1, rfl, _, rfl, rfl, _, rfl, hit (fun z => ?_) (fun z => ?_)⟩
      · have z' : b'.num = n := by
          have := of_decide_eq_true z
          simpa using this
        refine ⟨_, rfl, p, blV b' cc, 4, _, rfl, rfl, SqL.of e1, rfl, _, rfl, _, _, rfl, rfl, _, rfl, _, rfl, p, blV b' cc, 4, 4, rfl, rfl, e1, rfl, ?_⟩
        obtain ⟨h2, kp2⟩ := h1.setBl q (b := { b' with dx := nearF (b'.dx + a) }) e2
        have e1' : (upd H1 p (.lst (blV { b' with dx := nearF (b'.dx + a) } cc))) p = some (.lst (blV { b' with dx := nearF (b'.dx + a) } cc)) := upd_same
        have e2' := kp2.tup _ _ e2
        refine ⟨_, rfl, p, blV { b' with dx := nearF (b'.dx + a) } cc, 5, _, rfl, rfl, SqL.of e1', rfl, _, rfl, _, _, rfl, rfl, _, rfl, _, rfl, p, blV { b' with dx := nearF (b'.dx + a) } cc, 5, 5, rfl, rfl, e1', rfl, ?_⟩
        obtain ⟨h3, kp3⟩ := h2.setBl q (b := { b' with dx := nearF (b'.dx + a), dy := nearF (b'.dy + b) }) e2'
        refine ⟨_, rfl, kp1.trans (kp2.trans kp3), ?_⟩
        rw [← es]
        have hs : shoveB n a b b' = { b' with dx := nearF (b'.dx + a), dy := nearF (b'.dy + b) } := by
          unfold shoveB
          rw [if_pos z']
        rw [hs]
        have h4 := h3
        simp only [List.set_set] at h4
        exact h4
      · have z' : ¬ b'.num = n := fun y => by
          rw [y] at z
          exact absurd z (by simp)
        refine ⟨_, rfl, kp1, ?_⟩
        rw [← es]
        have hs : shoveB n a b b' = b' := by
          unfold shoveB
          rw [if_neg z']
        rw [hs, List.set_getElem?_self' eb]
        exact h1
  · rintro σ' H1 ⟨k1, rfl, kp1, h1⟩
    rw [List.length_map, show A.bl.length = s.bs.length from hD.bl.len, List.take_length, List.drop_length, List.append_nil] at h1
    exact k _ kp1 h1
end
end G
set_option Elab.async false
set_option linter.all false
set_option maxRecDepth 100000
set_option maxHeartbeats 4000000
namespace G
open PySem PySem.Spec PyProof.Rows L2
def seqE (c : Cfg) : List Ex → S → List Int × S
  | [], s => ([], s)
  | e :: r, s => ((evE c e s).1 :: (seqE c r (evE c e s).2).1, (seqE c r (evE c e s).2).2)
theorem evS_snoc {c : Cfg} (e : Ex) : ∀ (l : List Ex) (s : S), seqE c (l ++ [e]) s = ((seqE c l s).1 ++ [(evE c e (seqE c l s).2).1], (evE c e (seqE c l s).2).2)
  | [], s => rfl
  | x :: r, s => by
    show ((evE c x s).1 :: (seqE c (r ++ [e]) (evE c x s).2).1, (seqE c (r ++ [e]) (evE c x s).2).2) = _
    rw [evS_snoc e r]
    rfl
theorem evS_wf {c : Cfg} : ∀ (l : List Ex) {s : S}, WfS c s → WfS c (seqE c l s).2
  | [], s, h => h
  | e :: r, s, h => evS_wf r (evE_wf e h).1
theorem evS_len {c : Cfg} : ∀ (l : List Ex) (s : S), (seqE c l s).1.length = l.length
  | [], s => rfl
  | e :: r, s => by
    show (_ :: (seqE c r (evE c e s).2).1).length = _
    rw [List.length_cons, evS_len r, List.length_cons]
theorem LD.out {H : Hp} {A : LA} {c : Cfg} {s : S} {f : Int} {p : Addr} (h : LD H A c s f) (n : H p = none) : ¬ Md A p := fun m => by
  obtain ⟨us, ha, _⟩ := h.as
  simp only [Md, LA.mut, List.mem_cons] at m
  rcases m with z | z | z | z | z | z | z
  · rw [z, h.d] at n; cases n
  · rw [z, h.sh] at n; cases n
  · rw [z, h.bo] at n; cases n
  · rw [z, h.sa] at n; cases n
  · rw [z, ha] at n; cases n
  · rw [z, h.lv] at n; cases n
  · obtain ⟨i, hi⟩ := List.getElem?_of_mem z
    obtain ⟨b, _, cc, e, _⟩ := h.bl.getL hi
    rw [e] at n; cases n
def spDo : Sp := fun vs H Q _ => ∃ (A : LA) (c : Cfg) (s s' : S) (f : Int) (v : V) (x : Sm), vs = [.ref A.d, v] ∧ LD H A c s f ∧ WfS c s ∧ WfC c ∧ SmAt H x v ∧ x.ok ∧ plF c x s = some s' ∧ ∀ H', Kp (Md A) H H' → LD H' A c s' f → Q .non H'
def spRun (n : Nat) : Sp := fun vs H Q _ => ∃ (A : LA) (c : Cfg) (s : S) (v : V) (l : List Sm), vs = [.ref A.d, v] ∧ LD H A c s (s.fuel : Int) ∧ WfS c s ∧ WfC c ∧ BtAt H v l ∧ oks l ∧ bds l ≤ n ∧
  ∀ b s' f' H', Runs c (.body l) s b s' → Kp (Md A) H H' → LD H' A c s' f' → (b = true → f' = s'.fuel) → Q (.bl b) H'
def spRnds (n : Nat) : Sp := fun vs H Q _ => ∃ (A : LA) (c : Cfg) (s : S) (v : V) (e : Ex) (l : List Sm), vs = [.ref A.d, v] ∧ LD H A c s (s.fuel : Int) ∧ WfS c s ∧ WfC c ∧ SmAt H (.whl e l) v ∧ e.fit ∧ oks l ∧ bds l ≤ n ∧
  ∀ b s' f' H', Runs c (.rnd e l) s b s' → Kp (Md A) H H' → LD H' A c s' f' → (b = true → f' = s'.fuel) → Q (.bl b) H'
section
variable {P : Program} {w : World} {K : PySem.W.Frag} {mg : Str → Option Value} {base : Heap}
theorem scl_do : FnScope ["_law_doing_here", "_law_statement_here", "_law_word_here", "_law_parts", "_law_tree_here"] ["_law_doing_here", "_law_statement_here"] (defScope sl_do) := ⟨rfl, rfl, rfl, by decide +kernel, rfl, by decide +kernel, by decide +kernel⟩
theorem ok_l_do (T : Tx w K mg) : Cal P w K mg base "_law_do" 16 ["_law_doing_here", "_law_statement_here"] spDo := by
  obtain ⟨fd, F⟩ : ∃ fd, Fun K "_law_do" "_law_do" sl_do 1006 fd := T.fn 104 _ rfl
  refine T.cal F 163 rfl (fun _ _ _ _ _ _ us hl => match us, hl with | [_, _], _ => rfl) ?_
  refine F.ok scl_do (fun vs H Q E h => ?_) (fun cdv A outer s H vs Q E hr h => ?_)
  · obtain ⟨A, c, s, s', f, v, x, rfl, _⟩ := h
    rfl
  obtain ⟨A, c, s, s', f, v, x, rfl, hD, hw, hc, hx, hok, hp, k⟩ := h
  refine ⟨_, (pss_cons (ps_set (i := 2) scl_do.nd rfl (Or.inl rfl) (pe_ix ix_tup (pv 1) pe_int (fun _ _ => rfl)))
    (pss_one (ps_if (pt_cmpR op_eq (pv 2) pe_str (nomark _)) (pss_one (ps_expr (pe_k (ok_l_set T) (hr.mono (by decide)) (pa_cons (pv 0) (pa_cons (pe_ix ix_tup (pv 1) pe_int (fun _ _ => rfl)) (pa_cons (pe_k (ok_l_value T 10) (hr.mono (by decide)) (pa_cons (pv 0) (pa_cons (pe_ix ix_tup (pv 1) pe_int (fun _ _ => rfl)) pa_nil))) pa_nil)))))) (pss_one (ps_if (pt_cmpR op_eq (pv 2) pe_str (nomark _)) (pss_one (ps_expr (pe_k (ok_l_leave T) (hr.mono (by decide)) (pa_cons (pv 0) pa_nil)))) (pss_one (ps_if (pt_cmpR op_eq (pv 2) pe_str (nomark _)) (pss_one (ps_expr (pe_k (ok_l_say T) (hr.mono (by decide)) (pa_cons (pv 0) (pa_cons (pe_k (ok_l_value T 10) (hr.mono (by decide)) (pa_cons (pv 0) (pa_cons (pe_ix ix_tup (pv 1) pe_int (fun _ _ => rfl)) pa_nil))) pa_nil))))) (pss_cons (ps_setLc (i := 3) (own := [("_law_tree_here", 4)]) (g := gName 4) (by rfl) scl_do.nd rfl rfl (sw_true rfl rfl rfl (by decide +kernel)) (pi_tup (pe_slice sl_tupA (pv 1) (po_some (pe_op op_sub (pe_callB call_len_seq rfl (fr_len T) (by decide +kernel) (pa_cons (pv 1) pa_nil)) pe_int)) po_none)) (blkOk_by (own := [("_law_tree_here", 4)]) (N := ["_law_doing_here", "_law_statement_here", "_law_word_here", "_law_parts", "_law_tree_here"]) (sc := defScope sl_do) (by decide +kernel)) (fun _ _ _ _ _ => pg_name (i := 4) scl_do.nd rfl (Or.inl rfl)) (fun _ _ _ _ _ => pts_nil) (fun _ _ _ _ _ => (pe_k (ok_l_value T 10) (hr.mono (by decide)) (pa_cons (pv 0) (pa_cons (pv 4) pa_nil)))))
    (pss_one (ps_if (pt_cmpR op_eq (pv 2) pe_str (nomark _)) (pss_one (ps_expr (pe_k (ok_l_make T) (hr.mono (by decide)) (pa_cons (pv 0) (pa_cons (pe_ix ix_tup (pv 1) pe_int (fun _ _ => rfl)) (pa_cons (pe_ix ix_list (pv 3) pe_int (fun _ _ => rfl)) (pa_cons (pe_ix ix_list (pv 3) pe_int (fun _ _ => rfl)) (pa_cons (pe_ix ix_list (pv 3) pe_int (fun _ _ => rfl)) pa_nil)))))))) (pss_one (ps_expr (pe_k (ok_l_push T) (hr.mono (by decide)) (pa_cons (pv 0) (pa_cons (pe_ix ix_list (pv 3) pe_int (fun _ _ => rfl)) (pa_cons (pe_ix ix_list (pv 3) pe_int (fun _ _ => rfl)) (pa_cons (pe_ix ix_list (pv 3) pe_int (fun _ _ => rfl)) pa_nil))))))))))))))))), ?_⟩
  have three : ∀ {a : Addr} {z : Str} {pre : List V} {x1 x2 x3 : V} {e1 e2 e3 : Ex}, H a = some (.tup (.str z :: pre ++ [x1, x2, x3])) → ExAt H e1 x1 → ExAt H e2 x2 → ExAt H e3 x3 → e1.fit → e2.fit → e3.fit →
      ∀ p, H p = none → ∀ D, (upd H p (.tup [x1, x2, x3])) D = none → ∀ {Qd : Hp → Prop},
      (∀ H', Kp (Md A) H H' → LD H' A c (ev3 c e1 e2 e3 s).2.2.2 f → H' D = some (.lst [.int (ev3 c e1 e2 e3 s).1, .int (ev3 c e1 e2 e3 s).2.1, .int (ev3 c e1 e2 e3 s).2.2.1]) → Qd H') → ∃ W : Nat → Nat → Hp → Prop, (∃ m, W 0 m (upd (upd H p (.tup [x1, x2, x3])) D (.lst []))) ∧ ∀ i m Hh, W i m Hh →
        ((Itt K p).stop i Hh ∧ Qd Hh) ∨ ((Itt K p).go i Hh ∧ ∃ Nx : Hp → Prop, (∀ H', Nx H' → ∃ m', m' < m ∧ W (i + 1) m' H') ∧ ∀ x H', (Itt K p).yld i Hh x H' → gName 4 x (wipe [some (.ref A.d), some v, some (.str z), none, none] [4]) H' fun σ2 H2 => wipe σ2 [4] = wipe [some (.ref A.d), some v, some (.str z), none, none] [4] ∧ tYes σ2 H2 fun b H3 =>
          if b = true then tK (spVal 10) (tCons (tVar 0) (tCons (tVar 4) tNil)) σ2 H3 fun y H4 => ∃ acc, H4 D = some (.lst acc) ∧ acc.length < sizeLine ∧ Nx (upd H4 D (.lst (acc ++ [y]))) else Nx H3) := by
    intro a z pre x1 x2 x3 e1 e2 e3 et h1 h2 h3 f1 f2 f3 p np D nD Qd k2
    have kpp : Kp M0 H (upd H p (.tup [x1, x2, x3])) := Kp.new np
    have hD1 := hD.kp0 kpp
    have outD := hD1.out nD
    have hes : All2 (ExA H) [x1, x2, x3] [e1, e2, e3] := ⟨h1, h2, h3, trivial⟩
    have hfit : ∀ e ∈ [e1, e2, e3], e.fit := fun e he => by
      simp only [List.mem_cons, List.not_mem_nil, or_false] at he
      rcases he with q | q | q <;> rw [q] <;> assumption
    refine lc_tup (xs := [x1, x2, x3]) (fun j H' => Kp (Md A) (upd H p (.tup [x1, x2, x3])) H' ∧ LD H' A c (seqE c ([e1, e2, e3].take j) s).2 f ∧ H' D = some (.lst ((seqE c ([e1, e2, e3].take j) s).1.map V.int))) ?_ (fun i H' _ ⟨kp, _⟩ => SqT.of (kp.tup _ _ upd_same)) ?_ ?_
    · exact ⟨Kp.new nD, hD1.new nD, upd_same⟩
    · rintro j x Hj hj ⟨kpj, hDj, eD⟩
      obtain ⟨e, ee, he⟩ := hes.getL hj
      have hf := hfit e (List.mem_of_getElem? ee)
      refine ⟨rfl, _, rfl, _, rfl, A, c, _, f, x, e, rfl, hDj, evS_wf _ hw, hc, ExA.kp (ExA.kp he kpp) kpj, hf.1, hf.2.2, fun Hk kpk hDk => ?_⟩
      have eDk := kpk.keep _ _ eD outD
      have hjl := (List.getElem?_eq_some_iff.mp hj).1
      have kw : Kp (fun b => b = D) Hk (upd Hk D (.lst ((seqE c ([e1, e2, e3].take j) s).1.map V.int ++ [.int (evE c e (seqE c ([e1, e2, e3].take j) s).2).1]))) := Kp.rfl.set rfl (not_tup eDk trivial)
      refine ⟨_, eDk, Nat.lt_of_le_of_lt (show _ ≤ 100 by rw [List.length_map, evS_len, List.length_take]; show min j 3 ≤ 100; omega) (by decide), (kpj.trans kpk).priv nD, ?_, ?_⟩
      · rw [List.take_add_one, ee]
        show LD _ A c (seqE c ([e1, e2, e3].take j ++ [e]) s).2 f
        rw [evS_snoc]
        exact hDk.kp kw (fun b mb z => outD (z ▸ mb))
      · rw [List.take_add_one, ee, upd_same]
        show _ = some (HO.lst ((seqE c ([e1, e2, e3].take j ++ [e]) s).1.map V.int))
        rw [evS_snoc, List.map_append]
        rfl
    · rintro Hj ⟨kpj, hDj, eD⟩
      exact k2 Hj ((kpp.weak fun _ z => z.elim).trans kpj) hDj eD
  cases x with
  | set u e =>
    unfold SmAt at hx
    obtain ⟨a, x, rfl, et, h1⟩ := hx
    unfold Sm.ok at hok
    cases hp
    refine ⟨_, rfl, a, _, 0, _, rfl, rfl, SqT.of et, rfl, ?_⟩
    refine ⟨_, rfl, rfl, _, rfl, hit (fun _ => ?_) (fun c => absurd c (by decide +kernel))⟩
    exact ⟨_, rfl, _, rfl, a, _, 1, _, rfl, rfl, SqT.of et, rfl, _, rfl, _, rfl, a, _, 2, _, rfl, rfl, SqT.of et, rfl, A, c, s, f, x, e, rfl, hD, hw, hc, h1, hok.2.1, hok.2.2.2, fun H1 kp1 hD1 => ⟨A, c, _, f, u, _, rfl, hD1, (evE_wf e hw).1, hok.1, fun H2 kp2 hD2 => k _ (kp1.trans kp2) hD2⟩⟩
  | gone =>
    unfold SmAt at hx
    obtain ⟨a, rfl, et⟩ := hx
    cases hp
    refine ⟨_, rfl, a, _, 0, _, rfl, rfl, SqT.of et, rfl, ?_⟩
    refine ⟨_, rfl, rfl, _, rfl, hit (fun c => absurd c (by decide +kernel)) (fun _ => ?_)⟩
    refine ⟨_, rfl, rfl, _, rfl, hit (fun _ => ?_) (fun c => absurd c (by decide +kernel))⟩
    exact ⟨_, rfl, A, c, s, f, rfl, hD, hw, hc, fun H2 kp2 hD2 => k _ kp2 hD2⟩
  | say e =>
    unfold SmAt at hx
    obtain ⟨a, x, rfl, et, h1⟩ := hx
    unfold Sm.ok at hok
    cases hp
    refine ⟨_, rfl, a, _, 0, _, rfl, rfl, SqT.of et, rfl, ?_⟩
    refine ⟨_, rfl, rfl, _, rfl, hit (fun c => absurd c (by decide +kernel)) (fun _ => ?_)⟩
    refine ⟨_, rfl, rfl, _, rfl, hit (fun c => absurd c (by decide +kernel)) (fun _ => ?_)⟩
    refine ⟨_, rfl, rfl, _, rfl, hit (fun _ => ?_) (fun c => absurd c (by decide +kernel))⟩
    exact ⟨_, rfl, _, rfl, _, rfl, a, _, 1, _, rfl, rfl, SqT.of et, rfl, A, c, s, f, x, e, rfl, hD, hw, hc, h1, hok.1, hok.2.2, fun H1 kp1 hD1 => ⟨A, c, _, f, _, rfl, hD1, (evE_wf e hw).1, fun H2 kp2 hD2 => k _ (kp1.trans kp2) hD2⟩⟩
  | make n e1 e2 e3 =>
    unfold SmAt at hx
    obtain ⟨a, x1, x2, x3, rfl, et, h1, h2, h3⟩ := hx
    unfold Sm.ok at hok
    cases hp
    refine ⟨_, rfl, a, _, 0, _, rfl, rfl, SqT.of et, rfl, ?_⟩
    refine ⟨_, rfl, rfl, _, rfl, hit (fun c => absurd c (by decide +kernel)) (fun _ => ?_)⟩
    refine ⟨_, rfl, rfl, _, rfl, hit (fun c => absurd c (by decide +kernel)) (fun _ => ?_)⟩
    refine ⟨_, rfl, rfl, _, rfl, hit (fun c => absurd c (by decide +kernel)) (fun _ => ?_)⟩
    refine ⟨_, rfl, _, rfl, a, _, rfl, .inr (SqT.of et), _, _, rfl, rfl, 2, rfl, a, _, rfl, SqT.of et, fun q => absurd q.1 (by show ¬ (2 : Nat) = 0; decide), fun _ p np => ?_⟩
    refine ⟨p, rfl, ⟨[x1, x2, x3], SqT.of upd_same⟩, fun D nD => ?_⟩
    refine three (pre := [.int n]) et h1 h2 h3 hok.2.1 hok.2.2.1 hok.2.2.2 p np D nD (fun H1 kp1 hD1 eD => ?_)
    have hw3 := (ev3_wf e1 e2 e3 hw).1
    refine ⟨_, rfl, rfl, _, rfl, hit (fun _ => ?_) (fun c => absurd c (by decide +kernel))⟩
    exact ⟨_, rfl, _, rfl, a, _, 1, _, rfl, rfl, SqT.of (kp1.tup _ _ et), rfl, _, rfl, D, _, 0, _, rfl, rfl, SqL.of eD, rfl, _, rfl, D, _, 1, _, rfl, rfl, SqL.of eD, rfl, _, rfl, D, _, 2, _, rfl, rfl, SqL.of eD, rfl, A, c, _, f, n, _, _, _, rfl, hD1, hw3, fun H2 kp2 hD2 => k _ (kp1.trans kp2) hD2⟩
  | push e1 e2 e3 =>
    unfold SmAt at hx
    obtain ⟨a, x1, x2, x3, rfl, et, h1, h2, h3⟩ := hx
    unfold Sm.ok at hok
    cases hp
    refine ⟨_, rfl, a, _, 0, _, rfl, rfl, SqT.of et, rfl, ?_⟩
    refine ⟨_, rfl, rfl, _, rfl, hit (fun c => absurd c (by decide +kernel)) (fun _ => ?_)⟩
    refine ⟨_, rfl, rfl, _, rfl, hit (fun c => absurd c (by decide +kernel)) (fun _ => ?_)⟩
    refine ⟨_, rfl, rfl, _, rfl, hit (fun c => absurd c (by decide +kernel)) (fun _ => ?_)⟩
    refine ⟨_, rfl, _, rfl, a, _, rfl, .inr (SqT.of et), _, _, rfl, rfl, 1, rfl, a, _, rfl, SqT.of et, fun q => absurd q.1 (by show ¬ (1 : Nat) = 0; decide), fun _ p np => ?_⟩
    refine ⟨p, rfl, ⟨[x1, x2, x3], SqT.of upd_same⟩, fun D nD => ?_⟩
    refine three (pre := []) et h1 h2 h3 hok.1 hok.2.1 hok.2.2 p np D nD (fun H1 kp1 hD1 eD => ?_)
    refine ⟨_, rfl, rfl, _, rfl, hit (fun c => absurd c (by decide +kernel)) (fun _ => ?_)⟩
    exact ⟨_, rfl, _, rfl, D, _, 0, _, rfl, rfl, SqL.of eD, rfl, _, rfl, D, _, 1, _, rfl, rfl, SqL.of eD, rfl, _, rfl, D, _, 2, _, rfl, rfl, SqL.of eD, rfl, A, c, _, f, _, _, _, rfl, hD1, fun H2 kp2 hD2 => k _ (kp1.trans kp2) hD2⟩
  | ite _ _ _ => cases hp
  | whl _ _ => cases hp
end
end G
set_option Elab.async false
set_option linter.all false
set_option maxRecDepth 100000
set_option maxHeartbeats 4000000
namespace G
open PySem PySem.Spec PyProof.Rows L2
section
variable {P : Program} {w : World} {K : PySem.W.Frag} {mg : Str → Option Value} {base : Heap}
theorem scl_rounds : FnScope ["_law_doing_here", "_law_statement_here", "_law_k"] ["_law_doing_here", "_law_statement_here"] (defScope sl_rounds) := ⟨rfl, rfl, rfl, by decide +kernel, rfl, by decide +kernel, by decide +kernel⟩
theorem ok_l_rounds1 {n : Nat} (R : Cal P w K mg base "_law_run" (17 + 2 * n) ["_law_doing_here", "_law_body_here"] (spRun n)) (T : Tx w K mg) : Cal P w K mg base "_law_rounds" (17+2*n+1) ["_law_doing_here", "_law_statement_here"] (spRnds n) := by
  obtain ⟨fd, F⟩ : ∃ fd, Fun K "_law_rounds" "_law_rounds" sl_rounds 1020 fd := T.fn 106 _ rfl
  refine T.cal F 165 rfl (fun _ _ _ _ _ _ us hl => match us, hl with | [_, _], _ => rfl) ?_
  refine F.ok scl_rounds (fun vs H Q E h => ?_) (fun cdv A outer s H vs Q E hr h => ?_)
  · obtain ⟨A, c, s, v, e, l, rfl, _⟩ := h
    rfl
  obtain ⟨A, c, s, v, e, l, rfl, hD, hw, hc, hx, hf, hok, hb, k⟩ := h
  refine ⟨_, (pss_cons (ps_for PassesOwn.never rfl (pi_range1 rfl (fr_range T) (pa_cons pe_int pa_nil)) (pg_name (i := 2) scl_rounds.nd rfl (Or.inl rfl))
      (pss_cons (ps_if (pt_cmpR op_eq (pe_k (ok_l_value T 10) (hr.mono (by omega)) (pa_cons (pv 0) (pa_cons (pe_ix ix_tup (pv 1) pe_int (fun _ _ => rfl)) pa_nil))) pe_int (nomark _)) (pss_one (ps_ret pe_bl)) pss_nil)
    (pss_cons (ps_if (pt_not (pt_val (pe_k R (hr.mono (by omega)) (pa_cons (pv 0) (pa_cons (pe_ix ix_tup (pv 1) pe_int (fun _ _ => rfl)) pa_nil))))) (pss_one (ps_ret pe_bl)) pss_nil)
    (pss_one (ps_if (pt_not (pt_val (pe_k (ok_l_paid T) (hr.mono (by omega)) (pa_cons (pv 0) pa_nil)))) (pss_one (ps_ret pe_bl)) pss_nil)))))
    (pss_one (ps_ret pe_bl))), ?_⟩
  unfold SmAt at hx
  obtain ⟨a, x, b1, xs, rfl, et, h1, eb, hl⟩ := hx
  refine ⟨102, rfl, by decide, by decide, ?_⟩
  refine for_range (lo := 0) (n := 102) (fun i σ' H' => ∃ (k1 : Option V) (si : S), σ' = [some (.ref A.d), some (.ref a), k1] ∧ Kp (Md A) H H' ∧ LD H' A c si (si.fuel : Int) ∧ WfS c si ∧ si.fuel + i ≤ 100 ∧ ∀ b s', Runs c (.rnd e l) si b s' → Runs c (.rnd e l) s b s') ?_ ?_ ?_
  · exact ⟨none, s, rfl, Kp.rfl, hD, hw, hw.fu, fun _ _ r => r⟩
  · rintro i σ' H1 hi ⟨k1, si, rfl, kp1, hD1, hw1, hfu, back⟩
    have et1 := kp1.tup _ _ et
    refine ⟨_, rfl, _, rfl, a, _, 1, _, rfl, rfl, SqT.of et1, rfl, A, c, si, _, x, e, rfl, hD1, hw1, hc, h1.kp kp1, hf.1, hf.2.2, fun H2 kp2 hD2 => ?_⟩
    obtain ⟨hw2, hfe⟩ := evE_wf e hw1
    refine ⟨rfl, _, rfl, hit (fun z => ?_) (fun z => ?_)⟩
    · have z' : (evE c e si).1 = 0 := by
        have := of_decide_eq_true z
        simpa using this
      exact k _ _ _ _ (back _ _ (.fin z')) (kp1.trans kp2) hD2 (fun _ => by rw [hfe])
    · have z' : (evE c e si).1 ≠ 0 := fun y => by
        rw [y] at z
        exact absurd z (by decide)
      have k12 := kp1.trans kp2
      rw [← hfe] at hD2
      refine ⟨_, rfl, _, rfl, a, _, 2, _, rfl, rfl, SqT.of (kp2.tup _ _ et1), rfl, A, c, _, .ref b1, l, rfl, hD2, hw2, hc, ⟨b1, xs, rfl, k12.tup _ _ eb, BdAt.kp k12 _ _ hl⟩, hok, hb, fun b s3 f3 H3 hr kp3 hD3 hf3 => ?_⟩
      obtain ⟨hw3, hle⟩ := hr.wf hw2
      cases b with
      | false => exact ⟨_, rfl, iteT (k _ _ _ _ (back _ _ (.rstop z' hr)) (k12.trans kp3) hD3 (fun q => by cases q))⟩
      | true =>
        have e3 := hf3 rfl
        subst e3
        refine ⟨_, rfl, iteF ⟨_, rfl, A, c, s3, _, rfl, hD3, fun H4 kp4 hD4 => ⟨_, rfl, ?_⟩⟩⟩
        have k14 := k12.trans (kp3.trans kp4)
        by_cases y : s3.fuel = 0
        · rw [decide_eq_false (by omega)]
          exact iteT (k _ _ _ _ (back _ _ (.rdry z' hr y)) k14 hD4 (fun q => by cases q))
        · rw [decide_eq_true (by omega)]
          refine iteF ⟨_, pay s3, rfl, k14, ?_, pay_wf hw3, ?_, fun b s' r => back b s' (.rgo z' hr (by omega) r)⟩
          · have e4 : ((pay s3).fuel : Int) = (s3.fuel : Int) - 1 := by
              show ((s3.fuel - 1 : Nat) : Int) = _
              omega
            rw [e4]
            exact hD4.fuel _
          · show s3.fuel - 1 + (i + 1) ≤ 100
            omega
  · rintro σ' H1 ⟨k1, si, rfl, kp1, hD1, hw1, hfu, back⟩
    exact absurd hfu (by omega)
theorem scl_run : FnScope ["_law_doing_here", "_law_body_here", "_law_statement_here", "_law_some"] ["_law_doing_here", "_law_body_here"] (defScope sl_run) := ⟨rfl, rfl, rfl, by decide +kernel, rfl, by decide +kernel, by decide +kernel⟩
theorem ok_l_run1 {n : Nat} (R : Cal P w K mg base "_law_run" (17 + 2 * n) ["_law_doing_here", "_law_body_here"] (spRun n)) (W : Cal P w K mg base "_law_rounds" (17 + 2 * n + 1) ["_law_doing_here", "_law_statement_here"] (spRnds n)) (T : Tx w K mg) : Cal P w K mg base "_law_run" (17+2*n+1+1) ["_law_doing_here", "_law_body_here"] (spRun (n+1)) := by
  obtain ⟨fd, F⟩ : ∃ fd, Fun K "_law_run" "_law_run" sl_run 1013 fd := T.fn 105 _ rfl
  refine T.cal F 164 rfl (fun _ _ _ _ _ _ us hl => match us, hl with | [_, _], _ => rfl) ?_
  refine F.ok scl_run (fun vs H Q E h => ?_) (fun cdv A outer s H vs Q E hr h => ?_)
  · obtain ⟨A, c, s, v, l, rfl, _⟩ := h
    rfl
  obtain ⟨A, c, s, v, l, rfl, hD, hw, hc, ⟨t, xs, rfl, et, hl⟩, hok, hb, k⟩ := h
  refine ⟨_, (pss_cons (ps_for PassesOwn.never rfl (pi_tup (pv 1)) (pg_name (i := 2) scl_run.nd rfl (Or.inl rfl))
      (pss_cons (ps_if (pt_not (pt_val (pe_k (ok_l_paid T) (hr.mono (by omega)) (pa_cons (pv 0) pa_nil)))) (pss_one (ps_ret pe_bl)) pss_nil)
    (pss_one (ps_if (pt_cmpR op_eq (pe_ix ix_tup (pv 2) pe_int (fun _ _ => rfl)) pe_str (nomark _)) (pss_cons (ps_set (i := 3) scl_run.nd rfl (Or.inl rfl) (pe_ix ix_tup (pv 2) pe_int (fun _ _ => rfl)))
    (C8.pss_cut (ps_if (pt_cmpR op_ne (pe_k (ok_l_value T 10) (hr.mono (by omega)) (pa_cons (pv 0) (pa_cons (pe_ix ix_tup (pv 2) pe_int (fun _ _ => rfl)) pa_nil))) pe_int (nomark _)) (pss_one (ps_set (i := 3) scl_run.nd rfl (Or.inl rfl) (pe_ix ix_tup (pv 2) pe_int (fun _ _ => rfl)))) pss_nil)
    (pss_one (ps_if (pt_not (pt_val (pe_k R (hr.mono (by omega)) (pa_cons (pv 0) (pa_cons (pv 3) pa_nil))))) (pss_one (ps_ret pe_bl)) pss_nil)))) (pss_one (ps_if (pt_cmpR op_eq (pe_ix ix_tup (pv 2) pe_int (fun _ _ => rfl)) pe_str (nomark _)) (pss_one (ps_if (pt_not (pt_val (pe_k W (hr.mono (by omega)) (pa_cons (pv 0) (pa_cons (pv 2) pa_nil))))) (pss_one (ps_ret pe_bl)) pss_nil)) (pss_one (ps_expr (pe_k (ok_l_do T) (hr.mono (by omega)) (pa_cons (pv 0) (pa_cons (pv 2) pa_nil)))))))))))
    (pss_one (ps_ret pe_bl))), ?_⟩
  refine ⟨_, rfl, t, rfl, ⟨_, SqT.of et⟩, ?_⟩
  refine for_tup (xs := xs) (fun i σ' H' => ∃ (k1 k2 : Option V) (si : S), σ' = [some (.ref A.d), some (.ref t), k1, k2] ∧ Kp (Md A) H H' ∧ LD H' A c si (si.fuel : Int) ∧ WfS c si ∧ ∀ b s', Runs c (.body (l.drop i)) si b s' → Runs c (.body l) s b s') ?_ ?_ ?_ ?_
  · exact ⟨none, none, s, rfl, Kp.rfl, hD, hw, fun _ _ r => r⟩
  · rintro i σ' H' _ ⟨_, _, _, _, kp, _⟩
    exact SqT.of (kp.tup _ _ et)
  · rintro i y σ' H1 hi ⟨k1, k2, si, rfl, kp1, hD1, hw1, back⟩
    obtain ⟨x, ex, hx⟩ := BdAt.get hl hi
    have hxo := oks_get hok ex
    have hbd := bds_get ex
    have edr : l.drop i = x :: l.drop (i + 1) := by
      obtain ⟨hi', hv⟩ := List.getElem?_eq_some_iff.mp ex
      rw [← hv]
      exact List.drop_eq_getElem_cons hi'
    rw [edr] at back
    refine ⟨_, rfl, A, c, si, _, rfl, hD1, fun H2 kp2 hD2 => ⟨_, rfl, ?_⟩⟩
    have k12 := kp1.trans kp2
    by_cases y0 : si.fuel = 0
    · rw [decide_eq_false (by omega)]
      exact iteT (k _ _ _ _ (back _ _ (.stop (.dry y0))) k12 hD2 (fun q => by cases q))
    rw [decide_eq_true (by omega)]
    refine iteF ?_
    have hpos : 0 < si.fuel := by omega
    have hwp := pay_wf hw1
    have e4 : ((pay si).fuel : Int) = (si.fuel : Int) - 1 := by
      show ((si.fuel - 1 : Nat) : Int) = _
      omega
    have hDp : LD H2 A c (pay si) ((pay si).fuel : Int) := by
      rw [e4]
      exact hD2.fuel _
    have hx2 := SmAt.kp k12 _ _ hx
    cases x with
    | ite e la lb =>
      unfold SmAt at hx2
      obtain ⟨a, ve, b1, b2, x1, x2, rfl, ea, he, eb1, hb1, eb2, hb2⟩ := hx2
      unfold Sm.ok at hxo
      simp only [Sm.bd] at hbd
      refine ⟨_, rfl, a, _, 0, _, rfl, rfl, SqT.of ea, rfl, rfl, _, rfl, hit (fun _ => ?_) (fun c => absurd c (by decide +kernel))⟩
      refine ⟨_, rfl, a, _, 3, _, rfl, rfl, SqT.of ea, rfl, ?_⟩
      refine ⟨fun σ' H' => ∃ (bb : Addr) (xx : List V) (ll : List Sm), σ' = [some (.ref A.d), some (.ref t), some (.ref a), some (.ref bb)] ∧ Kp (Md A) H H' ∧ LD H' A c (evE c e (pay si)).2 ((evE c e (pay si)).2.fuel : Int) ∧ H' bb = some (.tup xx) ∧ BdAt H' ll xx ∧ oks ll ∧ bds ll ≤ n ∧ (if (evE c e (pay si)).1 ≠ 0 then la else lb) = ll, ?_, ?_⟩
      · refine ⟨_, rfl, _, rfl, a, _, 1, _, rfl, rfl, SqT.of ea, rfl, A, c, pay si, _, ve, e, rfl, hDp, hwp, hc, he, hxo.1.1, hxo.1.2.2, fun H3 kp3 hD3 => ?_⟩
        obtain ⟨hw3, hfe⟩ := evE_wf e hwp
        rw [← hfe] at hD3
        have k13 := k12.trans kp3
        have ea3 := kp3.tup _ _ ea
        refine ⟨rfl, _, rfl, hit (fun z => ?_) (fun z => ?_)⟩
        · have z' : (evE c e (pay si)).1 ≠ 0 := fun y => by
            rw [y] at z
            exact absurd z (by decide)
          exact ⟨_, rfl, a, _, 2, _, rfl, rfl, SqT.of ea3, rfl, b1, x1, la, rfl, k13, hD3, kp3.tup _ _ eb1, BdAt.kp kp3 _ _ hb1, hxo.2.1, by omega, if_pos z'⟩
        · have z' : (evE c e (pay si)).1 = 0 := by
            have := z
            simpa using this
          exact ⟨b2, x2, lb, rfl, k13, hD3, kp3.tup _ _ eb2, BdAt.kp kp3 _ _ hb2, hxo.2.2, by omega, if_neg (fun q => q z')⟩
      · rintro σ' H3 ⟨bb, xx, ll, rfl, k13, hD3, e1, e2, e3, e5, e6⟩
        obtain ⟨hw3, hfe⟩ := evE_wf e hwp
        refine ⟨_, rfl, _, rfl, A, c, _, .ref bb, ll, rfl, hD3, hw3, hc, ⟨bb, xx, rfl, e1, e2⟩, e3, e5, fun b s4 f4 H4 hr kp4 hD4 hf4 => ⟨_, rfl, ?_⟩⟩
        have hr' : Runs c (.stm (.ite e la lb)) si b s4 := .ite hpos (by rw [e6]; exact hr)
        obtain ⟨hw4, _⟩ := hr.wf hw3
        cases b with
        | false => exact iteT (k _ _ _ _ (back _ _ (.stop hr')) (k13.trans kp4) hD4 (fun q => by cases q))
        | true =>
          have e7 := hf4 rfl
          subst e7
          exact iteF ⟨_, _, s4, rfl, k13.trans kp4, hD4, hw4, fun b s' r => back b s' (.cons hr' r)⟩
    | whl e lb =>
      have hx3 := hx2
      unfold SmAt at hx2
      obtain ⟨a, ve, b1, x1, rfl, ea, he, eb1, hb1⟩ := hx2
      unfold Sm.ok at hxo
      simp only [Sm.bd] at hbd
      refine ⟨_, rfl, a, _, 0, _, rfl, rfl, SqT.of ea, rfl, rfl, _, rfl, hit (fun c => absurd c (by decide +kernel)) (fun _ => ?_)⟩
      refine ⟨_, rfl, a, _, 0, _, rfl, rfl, SqT.of ea, rfl, rfl, _, rfl, hit (fun _ => ?_) (fun c => absurd c (by decide +kernel))⟩
      refine ⟨_, rfl, _, rfl, A, c, pay si, .ref a, e, lb, rfl, hDp, hwp, hc, hx3, hxo.1, hxo.2, by omega, fun b s4 f4 H4 hr kp4 hD4 hf4 => ⟨_, rfl, ?_⟩⟩
      have hr' : Runs c (.stm (.whl e lb)) si b s4 := .whl hpos hr
      obtain ⟨hw4, _⟩ := hr.wf hwp
      cases b with
      | false => exact iteT (k _ _ _ _ (back _ _ (.stop hr')) (k12.trans kp4) hD4 (fun q => by cases q))
      | true =>
        have e7 := hf4 rfl
        subst e7
        exact iteF ⟨_, _, s4, rfl, k12.trans kp4, hD4, hw4, fun b s' r => back b s' (.cons hr' r)⟩
    | set u e =>
      have hx3 := hx2
      unfold SmAt at hx2
      obtain ⟨a, x, rfl, ea, _⟩ := hx2
      refine ⟨_, rfl, a, _, 0, _, rfl, rfl, SqT.of ea, rfl, rfl, _, rfl, hit (fun c => absurd c (by decide +kernel)) (fun _ => ?_)⟩
      refine ⟨_, rfl, a, _, 0, _, rfl, rfl, SqT.of ea, rfl, rfl, _, rfl, hit (fun c => absurd c (by decide +kernel)) (fun _ => ?_)⟩
      refine ⟨_, rfl, _, rfl, A, c, pay si, _, _, .ref a, _, rfl, hDp, hwp, hc, hx3, hxo, rfl, fun H4 kp4 hD4 => ?_⟩
      obtain ⟨hw4, hfe⟩ := plF_wf (x := .set u e) hwp rfl
      rw [← hfe] at hD4
      exact ⟨_, _, _, rfl, k12.trans kp4, hD4, hw4, fun b s' r => back b s' (.cons (.plain hpos rfl) r)⟩
    | make n' e1 e2 e3 =>
      have hx3 := hx2
      unfold SmAt at hx2
      obtain ⟨a, x1, x2, x3, rfl, ea, _⟩ := hx2
      refine ⟨_, rfl, a, _, 0, _, rfl, rfl, SqT.of ea, rfl, rfl, _, rfl, hit (fun c => absurd c (by decide +kernel)) (fun _ => ?_)⟩
      refine ⟨_, rfl, a, _, 0, _, rfl, rfl, SqT.of ea, rfl, rfl, _, rfl, hit (fun c => absurd c (by decide +kernel)) (fun _ => ?_)⟩
      refine ⟨_, rfl, _, rfl, A, c, pay si, _, _, .ref a, _, rfl, hDp, hwp, hc, hx3, hxo, rfl, fun H4 kp4 hD4 => ?_⟩
      obtain ⟨hw4, hfe⟩ := plF_wf (x := .make n' e1 e2 e3) hwp rfl
      rw [← hfe] at hD4
      exact ⟨_, _, _, rfl, k12.trans kp4, hD4, hw4, fun b s' r => back b s' (.cons (.plain hpos rfl) r)⟩
    | push e1 e2 e3 =>
      have hx3 := hx2
      unfold SmAt at hx2
      obtain ⟨a, x1, x2, x3, rfl, ea, _⟩ := hx2
      refine ⟨_, rfl, a, _, 0, _, rfl, rfl, SqT.of ea, rfl, rfl, _, rfl, hit (fun c => absurd c (by decide +kernel)) (fun _ => ?_)⟩
      refine ⟨_, rfl, a, _, 0, _, rfl, rfl, SqT.of ea, rfl, rfl, _, rfl, hit (fun c => absurd c (by decide +kernel)) (fun _ => ?_)⟩
      refine ⟨_, rfl, _, rfl, A, c, pay si, _, _, .ref a, _, rfl, hDp, hwp, hc, hx3, hxo, rfl, fun H4 kp4 hD4 => ?_⟩
      obtain ⟨hw4, hfe⟩ := plF_wf (x := .push e1 e2 e3) hwp rfl
      rw [← hfe] at hD4
      exact ⟨_, _, _, rfl, k12.trans kp4, hD4, hw4, fun b s' r => back b s' (.cons (.plain hpos rfl) r)⟩
    | gone =>
      have hx3 := hx2
      unfold SmAt at hx2
      obtain ⟨a, rfl, ea⟩ := hx2
      refine ⟨_, rfl, a, _, 0, _, rfl, rfl, SqT.of ea, rfl, rfl, _, rfl, hit (fun c => absurd c (by decide +kernel)) (fun _ => ?_)⟩
      refine ⟨_, rfl, a, _, 0, _, rfl, rfl, SqT.of ea, rfl, rfl, _, rfl, hit (fun c => absurd c (by decide +kernel)) (fun _ => ?_)⟩
      refine ⟨_, rfl, _, rfl, A, c, pay si, _, _, .ref a, _, rfl, hDp, hwp, hc, hx3, hxo, rfl, fun H4 kp4 hD4 => ?_⟩
      obtain ⟨hw4, hfe⟩ := plF_wf (x := .gone) hwp rfl
      rw [← hfe] at hD4
      exact ⟨_, _, _, rfl, k12.trans kp4, hD4, hw4, fun b s' r => back b s' (.cons (.plain hpos rfl) r)⟩
    | say e =>
      have hx3 := hx2
      unfold SmAt at hx2
      obtain ⟨a, x, rfl, ea, _⟩ := hx2
      refine ⟨_, rfl, a, _, 0, _, rfl, rfl, SqT.of ea, rfl, rfl, _, rfl, hit (fun c => absurd c (by decide +kernel)) (fun _ => ?_)⟩
      refine ⟨_, rfl, a, _, 0, _, rfl, rfl, SqT.of ea, rfl, rfl, _, rfl, hit (fun c => absurd c (by decide +kernel)) (fun _ => ?_)⟩
      refine ⟨_, rfl, _, rfl, A, c, pay si, _, _, .ref a, _, rfl, hDp, hwp, hc, hx3, hxo, rfl, fun H4 kp4 hD4 => ?_⟩
      obtain ⟨hw4, hfe⟩ := plF_wf (x := .say e) hwp rfl
      rw [← hfe] at hD4
      exact ⟨_, _, _, rfl, k12.trans kp4, hD4, hw4, fun b s' r => back b s' (.cons (.plain hpos rfl) r)⟩
  · rintro σ' H1 ⟨k1, k2, si, rfl, kp1, hD1, hw1, back⟩
    rw [show xs.length = l.length from hl.len, List.drop_length] at back
    exact k _ _ _ _ (back _ _ (.nil _)) kp1 hD1 (fun _ => rfl)
theorem ok_l_run (T : Tx w K mg) : ∀ n : Nat, Cal P w K mg base "_law_run" (17 + 2 * n) ["_law_doing_here", "_law_body_here"] (spRun n)
  | 0 => by
    obtain ⟨fd, F⟩ : ∃ fd, Fun K "_law_run" "_law_run" sl_run 1013 fd := T.fn 105 _ rfl
    exact T.cal F 164 rfl (fun _ _ _ _ _ _ us hl => match us, hl with | [_, _], _ => rfl) (fnok_none fun vs H Q E h => by
      obtain ⟨A, c, s, v, l, _, _, _, _, _, _, d2, _⟩ := h
      have := bds_pos l
      omega)
  | n + 1 => (ok_l_run1 (ok_l_run T n) (ok_l_rounds1 (ok_l_run T n) T) T).mono (by omega)
end
end G
set_option Elab.async false
set_option linter.all false
set_option maxRecDepth 100000
set_option maxHeartbeats 4000000
namespace G
open PySem PySem.Spec PyProof.Rows L2
def rLof (K : PySem.W.Frag) : List V → Hp → VK → Prop := fun xs H Q => ∃ p ys, xs = [.ref p] ∧ (SqL K H p ys ∨ SqT K H p ys) ∧ ∀ l, H l = none → Q (.ref l) (upd H l (.lst ys))
def rTof (K : PySem.W.Frag) : List V → Hp → VK → Prop := fun xs H Q => ∃ p ys, xs = [.ref p] ∧ ((SqL K H p ys ∧ ∀ l, H l = none → Q (.ref l) (upd H l (.tup ys))) ∨ (SqT K H p ys ∧ Q (.ref p) H))
theorem num_inj {bs : List Bod} (h : (bs.map (·.num)).Pairwise (· < ·)) {i j : Nat} {a b : Bod} (ha : bs[i]? = some a) (hb : bs[j]? = some b) (e : a.num = b.num) : i = j := by
  obtain ⟨hi, ea⟩ := List.getElem?_eq_some_iff.mp ha
  obtain ⟨hj, eb⟩ := List.getElem?_eq_some_iff.mp hb
  rw [List.pairwise_map, List.pairwise_iff_getElem] at h
  rcases Nat.lt_trichotomy i j with q | q | q
  · have := h i j hi hj q
    rw [ea, eb] at this
    omega
  · exact q
  · have := h j i hj hi q
    rw [ea, eb] at this
    omega
/-- the setting of one event -/
def cfgF (p : Pts) (rows : List (List Nat)) (wd : Nat) (nk pl num other side : Int) (inp : List Int) (ix : Nat) : Cfg := ⟨p.tick, ix, other, side, inp, rows, wd, nk, pl, num, p.lv⟩
def st0F (p : Pts) : S := ⟨p.seed, p.sh, p.bs, p.said, p.asked, false, 100⟩
def spDoing : Sp := fun vs H Q _ => ∃ (v rv : V) (a it : Addr) (p : Pts) (rows : List (List Nat)) (wd : Nat) (ks : List Kd) (pl num other side : Int) (inp : List Int) (ix : Nat) (b : Bod), vs = [v, rv, .ref a, .int num, .int other, .int side, .ref it] ∧
  PtsAt H v p ∧ RowsAt H rv rows ∧ KsAt H a ks ∧ H it = some (.tup (inp.map V.int)) ∧ BodsOk ks.length pl p.bs ∧ p.bs[ix]? = some b ∧ b.num = num ∧
  ∀ A H', Kp M0 H H' → LD H' A (cfgF p rows wd ks.length pl num other side inp ix) (st0F p) 100 → (∀ z, Md A z → H z = none) → Q (.ref A.d) H'
theorem putK_new {κ : Type} [DecidableEq κ] {kvs : List (κ × V)} {k : κ} {v : V} (h : k ∉ kvs.map Prod.fst) : putK kvs k v = kvs ++ [(k, v)] := by
  unfold putK
  rw [if_neg]
  intro q
  obtain ⟨p, hp, e⟩ := List.any_eq_true.mp q
  exact h (List.mem_map.mpr ⟨p, hp, of_decide_eq_true e⟩)
theorem mergeK_new : ∀ (more kvs : List (Key × V)), (kvs.map Prod.fst ++ more.map Prod.fst).Nodup → mergeK kvs more = kvs ++ more
  | [], kvs, _ => by rw [List.append_nil]; rfl
  | (k, v) :: r, kvs, h => by
    show mergeK (putK kvs k v) r = _
    have h1 : k ∉ kvs.map Prod.fst := fun m => by
      rw [List.map_cons, List.nodup_append] at h
      exact h.2.2 k m k (List.mem_cons_self ..) rfl
    rw [putK_new h1, mergeK_new r (kvs ++ [(k, v)]) (by rw [List.map_append, List.append_assoc]; exact h), List.append_assoc]
    rfl
theorem doK_keys (c : Cfg) (A : LA) (sd f : Int) : ((doK c A sd f).map Prod.fst).Nodup := by
  show (([Sum.inr "tick", Sum.inr "seed", Sum.inr "shared", Sum.inr "bodies", Sum.inr "said", Sum.inr "asked", Sum.inr "leaving", Sum.inr "fuel", Sum.inr "rows", Sum.inr "kinds", Sum.inr "at", Sum.inr "other", Sum.inr "side", Sum.inr "inputs"] : List Key)).Nodup
  decide +kernel
theorem doK_merge (c : Cfg) (A : LA) (sd f : Int) : mergeK [] (doK c A sd f) = doK c A sd f := mergeK_new _ [] (doK_keys c A sd f)
theorem doK_ps (c : Cfg) (A : LA) (sd f : Int) : [((V.str "tick", V.int c.tick) : V × V), (.str "seed", .int sd), (.str "shared", .ref A.sh), (.str "bodies", .ref A.bo), (.str "said", .ref A.sa), (.str "asked", .ref A.as), (.str "leaving", .ref A.lv), (.str "fuel", .int f),
   (.str "rows", .ref A.rt), (.str "kinds", .int c.nk), (.str "at", .int (c.ix : Nat)), (.str "other", .int c.other), (.str "side", .int c.side), (.str "inputs", .ref A.it)] = (doK c A sd f).map (fun kv => (kV kv.1, kv.2)) := by rfl
section
variable {P : Program} {w : World} {K : PySem.W.Frag} {mg : Str → Option Value} {base : Heap}
theorem scl_doing : FnScope ["_law_parts", "_law_rows_here", "_law_kinds", "_law_number", "_law_other", "_law_side", "_law_inputs_here", "_law_at", "_law_k", "_law_b"] ["_law_parts", "_law_rows_here", "_law_kinds", "_law_number", "_law_other", "_law_side", "_law_inputs_here"] (defScope sl_doing) := ⟨rfl, rfl, rfl, by decide +kernel, rfl, by decide +kernel, by decide +kernel⟩
theorem ok_l_doing (T : Tx w K mg) : Cal P w K mg base "_law_doing" 1 ["_law_parts", "_law_rows_here", "_law_kinds", "_law_number", "_law_other", "_law_side", "_law_inputs_here"] spDoing := by
  obtain ⟨fd, F⟩ : ∃ fd, Fun K "_law_doing" "_law_doing" sl_doing 905 fd := T.fn 89 _ rfl
  refine T.cal F 148 rfl (fun _ _ _ _ _ _ us hl => match us, hl with | [_, _, _, _, _, _, _], _ => rfl) ?_
  refine F.ok scl_doing (fun vs H Q E h => ?_) (fun cdv A outer s H vs Q E hr h => ?_)
  · obtain ⟨v, rv, a, it, p, rows, wd, ks, pl, num, other, side, inp, ix, b, rfl, _⟩ := h
    rfl
  obtain ⟨v, rv, a, it, p, rows, wd, ks, pl, num, other, side, inp, ix, b, rfl, ⟨t, sh, bo, sa, as, lv, rfl, et, hp⟩, ⟨rt, rfl, ert⟩, hK, eit, hbo, eix, enum, k⟩ := h
  refine ⟨_, (pss_cons (ps_set (i := 7) scl_doing.nd rfl (Or.inl rfl) pe_int)
    (pss_cons (ps_for PassesOwn.never rfl (pi_range1 rfl (fr_range T) (pa_cons (pe_callB call_len_seq rfl (fr_len T) (by decide +kernel) (pa_cons (pe_ix ix_tup (pv 0) pe_int (fun _ _ => rfl)) pa_nil)) pa_nil)) (pg_name (i := 8) scl_doing.nd rfl (Or.inl rfl))
      (pss_one (ps_if (pt_cmpR op_eq (pe_ix ix_tup (pe_ix ix_tup (pe_ix ix_tup (pv 0) pe_int (fun _ _ => rfl)) (pv 8) (fun _ _ => rfl)) pe_int (fun _ _ => rfl)) (pv 3) (nomark _)) (pss_one (ps_set (i := 7) scl_doing.nd rfl (Or.inl rfl) (pv 8))) pss_nil)))
    (pss_one (ps_ret (pe_disp (pps_cons pe_str (pe_ix ix_tup (pv 0) pe_int (fun _ _ => rfl)) (pps_cons pe_str (pe_ix ix_tup (pv 0) pe_int (fun _ _ => rfl)) (pps_cons pe_str (pe_callTy call_list_of rfl (fr_list T) (by decide +kernel) (pa_cons (pe_ix ix_tup (pv 0) pe_int (fun _ _ => rfl)) pa_nil)) (pps_cons pe_str (pe_lc (own := [("_law_b", 9)]) (g := gName 9) (by rfl) scl_doing.nd (pi_tup (pe_ix ix_tup (pv 0) pe_int (fun _ _ => rfl))) (blkOk_by (own := [("_law_b", 9)]) (N := ["_law_parts", "_law_rows_here", "_law_kinds", "_law_number", "_law_other", "_law_side", "_law_inputs_here", "_law_at", "_law_k", "_law_b"]) (sc := defScope sl_doing) (by decide +kernel)) (fun _ _ _ _ _ => pg_name (i := 9) scl_doing.nd rfl (Or.inl rfl)) (fun _ _ _ _ _ => pts_nil) (fun _ _ _ _ _ => (pe_callTy ((show CallR _ _ (rLof K) from call_list_of)) rfl (fr_list T) (by decide +kernel) (pa_cons (pv 9) pa_nil)))) (pps_cons pe_str (pe_callTy call_list_of rfl (fr_list T) (by decide +kernel) (pa_cons (pe_ix ix_tup (pv 0) pe_int (fun _ _ => rfl)) pa_nil)) (pps_cons pe_str (pe_callTy call_list_of rfl (fr_list T) (by decide +kernel) (pa_cons (pe_ix ix_tup (pv 0) pe_int (fun _ _ => rfl)) pa_nil)) (pps_cons pe_str (pe_callTy call_list_of rfl (fr_list T) (by decide +kernel) (pa_cons (pe_ix ix_tup (pv 0) pe_int (fun _ _ => rfl)) pa_nil)) (pps_cons pe_str pe_int (pps_cons pe_str (pv 1) (pps_cons pe_str (pe_callB call_len_seq rfl (fr_len T) (by decide +kernel) (pa_cons (pv 2) pa_nil)) (pps_cons pe_str (pv 7) (pps_cons pe_str (pv 4) (pps_cons pe_str (pv 5) (pps_cons pe_str (pv 6) pps_nil)))))))))))))) (by rfl) (by rfl) (fun z => by cases z) (by decide)))))), ?_⟩
  obtain ⟨bvs, eb, hB⟩ := hp.bo
  obtain ⟨avs, eas, hA⟩ := hp.as
  obtain ⟨kvs, eK, hKs, _, _⟩ := hK
  have hbl := hB.len
  have h5 := hbo.len
  refine ⟨_, rfl, t, _, 3, _, rfl, rfl, SqT.of et, rfl, bo, bvs, rfl, .inr (SqT.of eb), _, rfl, by omega, by omega, ?_⟩
  rw [Int.toNat_natCast]
  refine for_range (lo := 0) (n := bvs.length) (fun i σ' H' => ∃ (z : Int) (k1 : Option V), σ' = [some (.ref t), some (.ref rt), some (.ref a), some (.int num), some (.int other), some (.int side), some (.ref it), some (.int z), k1, none] ∧ H' = H ∧ (ix < i → z = ix)) ?_ ?_ ?_
  · exact ⟨0, none, rfl, rfl, fun q => by omega⟩
  · rintro i σ' H' hi ⟨z, k1, rfl, rfl, hz⟩
    obtain ⟨bv, ebv⟩ : ∃ x, bvs[i]? = some x := ⟨bvs[i], List.getElem?_eq_getElem hi⟩
    obtain ⟨bi, ebi, tb, cb, rfl, etb, _⟩ := hB.getL ebv
    refine ⟨_, rfl, t, _, 3, _, rfl, rfl, SqT.of et, rfl, _, rfl, bo, bvs, _, _, rfl, rfl, SqT.of eb, atI_of (Int.zero_add _) ebv, tb, _, 0, _, rfl, rfl, SqT.of etb, rfl, _, rfl, rfl, _, rfl, hit (fun q => ?_) (fun q => ?_)⟩
    · have q' : bi.num = num := by
        have := of_decide_eq_true q
        simpa using this
      have e := num_inj hbo.asc ebi eix (q'.trans enum.symm)
      exact ⟨_, rfl, _, _, rfl, rfl, fun _ => by omega⟩
    · refine ⟨_, _, rfl, rfl, fun y => ?_⟩
      by_cases e : ix = i
      · subst e
        rw [eix] at ebi
        cases ebi
        rw [enum] at q
        exact absurd q (by simp)
      · exact hz (by omega)
  rintro σ' H' ⟨z, k1, rfl, rfl, hz⟩
  have ixl : ix < bvs.length := by
    rw [hbl]
    exact (List.getElem?_eq_some_iff.mp eix).1
  have hz' := hz ixl
  subst hz'
  refine fun d nd => ?_
  have kd : Kp M0 H' (upd H' d (.dK [])) := Kp.new nd
  have ed : (upd H' d (.dK [])) d = some (.dK []) := upd_same
  have et1 := kd.tup _ _ et
  show tPairs _ _ (upd H' d (.dK [])) _
  generalize upd H' d (.dK []) = H1 at kd ed et1
  refine ⟨_, rfl, t, _, 0, _, rfl, rfl, SqT.of et1, rfl, _, rfl, t, _, 1, _, rfl, rfl, SqT.of et1, rfl, _, rfl, t, _, 2, _, rfl, rfl, SqT.of et1, rfl, sh, _, rfl, .inr (SqT.of (kd.tup _ _ hp.sh)), fun sh' nsh => ?_⟩
  have k2 : Kp M0 H1 (upd H1 sh' (.lst (p.sh.map V.int))) := Kp.new nsh
  have e2 : (upd H1 sh' (.lst (p.sh.map V.int))) sh' = some (.lst (p.sh.map V.int)) := upd_same
  have kd2 := kd.trans k2
  generalize upd H1 sh' (.lst (p.sh.map V.int)) = H2 at k2 e2 kd2
  have kd2t := kd2.tup _ _ et
  refine ⟨_, rfl, t, _, 3, _, rfl, rfl, SqT.of kd2t, rfl, bo, rfl, ⟨_, SqT.of (kd2.tup _ _ eb)⟩, fun D nD => ?_⟩
  refine lc_tup (xs := bvs) (fun j Hj => Kp M0 H2 Hj ∧ ∃ bl : List Addr, Hj D = some (.lst (bl.map V.ref)) ∧ bl.length = j ∧ All2 (BlAt Hj) bl (p.bs.take j) ∧ bl.Nodup ∧ D ∉ bl ∧ ∀ z ∈ bl, H2 z = none) ?_ (fun i Hj _ ⟨kp, _⟩ => SqT.of (kp.tup _ _ (kd2.tup _ _ eb))) ?_ ?_
  · exact ⟨Kp.new nD, [], upd_same, rfl, trivial, List.nodup_nil, by simp, fun z hz => absurd hz (by simp)⟩
  · rintro j x Hj hj ⟨kpj, bl, eD, hlj, hbj, hnd, hDn, hfr⟩
    obtain ⟨bi, ebi, tb, cb, rfl, etb, ecb⟩ := hB.getL hj
    have kdj := kd2.trans kpj
    refine ⟨rfl, _, rfl, tb, _, rfl, .inr (SqT.of (kdj.tup _ _ etb)), fun q nq => ?_⟩
    have kq : Kp M0 Hj (upd Hj q (.lst (blV bi cb))) := Kp.new nq
    have qD : D ≠ q := ne_of_none eD nq
    have eD2 : (upd Hj q (.lst (blV bi cb))) D = some (.lst (bl.map V.ref)) := kq.keep _ _ eD id
    have qbl : q ∉ bl := fun m => by
      obtain ⟨i, hi⟩ := List.getElem?_of_mem m
      obtain ⟨_, _, _, e, _⟩ := hbj.getL hi
      rw [e] at nq
      cases nq
    have kw : Kp (fun b => b = D) (upd Hj q (.lst (blV bi cb))) (upd (upd Hj q (.lst (blV bi cb))) D (.lst (bl.map V.ref ++ [.ref q]))) := Kp.rfl.set rfl (not_tup eD2 trivial)
    have jl := (List.getElem?_eq_some_iff.mp hj).1
    refine ⟨_, eD2, Nat.lt_of_le_of_lt (show _ ≤ 100 by rw [List.length_map]; omega) (by decide), (kpj.trans kq).priv nD, bl ++ [q], by rw [upd_same, List.map_append]; rfl, by rw [List.length_append, hlj]; rfl, ?_, ?_, ?_, ?_⟩
    · rw [List.take_add_one, ebi]
      refine All2.snoc (All2.monoM (fun a' b' m r => (r.kp kq id).kp kw (fun z => hDn (z ▸ m))) hbj) ⟨cb, kw.keep _ _ upd_same qD.symm, kw.tup _ _ (kq.tup _ _ (kdj.tup _ _ ecb))⟩
    · rw [List.nodup_append]
      refine ⟨hnd, by simp, fun a' ha' b' hb' => ?_⟩
      rw [List.mem_singleton.mp hb']
      exact fun z => qbl (z ▸ ha')
    · intro m
      rcases List.mem_append.mp m with z | z
      · exact hDn z
      · exact qD (List.mem_singleton.mp z)
    · intro z hz
      rcases List.mem_append.mp hz with y | y
      · exact hfr z y
      · rw [List.mem_singleton.mp y]
        exact kpj.free nq
  rintro H3 ⟨kp3, bl, eD, hlj, hbj, hnd, hDn, hfr⟩
  rw [show bvs.length = p.bs.length from hbl, List.take_length] at hbj
  have kd3 := kd2.trans kp3
  refine ⟨_, rfl, t, _, 4, _, rfl, rfl, SqT.of (kd3.tup _ _ et), rfl, sa, _, rfl, .inr (SqT.of (kd3.tup _ _ hp.sa)), fun sa' nsa => ?_⟩
  have k4 : Kp M0 H3 (upd H3 sa' (.lst (p.said.map V.int))) := Kp.new nsa
  have kd4 := kd3.trans k4
  refine ⟨_, rfl, t, _, 5, _, rfl, rfl, SqT.of (kd4.tup _ _ et), rfl, as, _, rfl, .inr (SqT.of (kd4.tup _ _ eas)), fun as' nas => ?_⟩
  have k5 : Kp M0 (upd H3 sa' (.lst (p.said.map V.int))) (upd (upd H3 sa' (.lst (p.said.map V.int))) as' (.lst avs)) := Kp.new nas
  have kd5 := kd4.trans k5
  refine ⟨_, rfl, t, _, 6, _, rfl, rfl, SqT.of (kd5.tup _ _ et), rfl, lv, _, rfl, .inr (SqT.of (kd5.tup _ _ hp.lv)), fun lv' nlv => ?_⟩
  have k6 : Kp M0 (upd (upd H3 sa' (.lst (p.said.map V.int))) as' (.lst avs)) (upd (upd (upd H3 sa' (.lst (p.said.map V.int))) as' (.lst avs)) lv' (.lst (p.lv.map V.int))) := Kp.new nlv
  have kd6 := kd5.trans k6
  have e4 := k6.keep _ _ (k5.keep _ _ (upd_same : (upd H3 sa' (.lst (p.said.map V.int))) sa' = _) id) id
  have e5 := k6.keep _ _ (upd_same : (upd (upd H3 sa' (.lst (p.said.map V.int))) as' (.lst avs)) as' = _) id
  have e6 : (upd (upd (upd H3 sa' (.lst (p.said.map V.int))) as' (.lst avs)) lv' (.lst (p.lv.map V.int))) lv' = some (.lst (p.lv.map V.int)) := upd_same
  have k36 := k4.trans (k5.trans k6)
  have eD6 := k36.keep _ _ eD id
  have e26 := k36.keep _ _ (kp3.keep _ _ e2 id) id
  have ed6 := k36.keep _ _ (kp3.keep _ _ (k2.keep _ _ ed id) id) id
  have hb6 : All2 (BlAt (upd (upd (upd H3 sa' (.lst (p.said.map V.int))) as' (.lst avs)) lv' (.lst (p.lv.map V.int)))) bl p.bs := hbj.mono fun _ _ r => r.kp k36 id
  have nlv3 : H3 lv' = none := (k4.trans k5).free nlv
  have nas3 : H3 as' = none := k4.free nas
  have x1 : sa' ≠ as' := ne_of_none (upd_same : (upd H3 sa' (.lst (p.said.map V.int))) sa' = _) nas
  have x2 : sa' ≠ lv' := ne_of_none (k5.keep _ _ (upd_same : (upd H3 sa' (.lst (p.said.map V.int))) sa' = _) id) nlv
  have x3 : as' ≠ lv' := ne_of_none (upd_same : (upd (upd H3 sa' (.lst (p.said.map V.int))) as' (.lst avs)) as' = _) nlv
  have hAv := hA.len
  generalize upd (upd (upd H3 sa' (.lst (p.said.map V.int))) as' (.lst avs)) lv' (.lst (p.lv.map V.int)) = H6 at k6 kd6 e4 e5 e6 k36 eD6 e26 ed6 hb6
  have e23 := kp3.keep _ _ e2 id
  have b3 : ∀ z ∈ bl, ∃ xs, H3 z = some (.lst xs) ∧ H6 z = some (.lst xs) := fun z hz => by
    obtain ⟨i, hi⟩ := List.getElem?_of_mem hz
    obtain ⟨_, _, _, e, _⟩ := hbj.getL hi
    exact ⟨_, e, k36.keep _ _ e id⟩
  have eK6 := kd6.keep _ _ eK id
  have hkl : (kvs.length : Int) = (ks.length : Int) := by rw [show kvs.length = ks.length from hKs.len]
  refine ⟨_, rfl, _, rfl, a, kvs, rfl, .inl (SqL.of eK6), _, rfl, _, rfl, _, rfl, _, rfl, ed6, doK (cfgF p rows wd ks.length pl num other side inp ix) ⟨d, sh', D, sa', as', lv', rt, it, bl⟩ p.seed 100, ?_, ?_, ?_⟩
  · rw [← doK_ps, hkl]
    rfl
  · show 14 ≤ 15
    decide
  rw [doK_merge]
  have kw : Kp (fun b => b = d) H6 (upd H6 d (.dK (doK (cfgF p rows wd ks.length pl num other side inp ix) ⟨d, sh', D, sa', as', lv', rt, it, bl⟩ p.seed 100))) := Kp.rfl.set rfl (not_tup ed6 trivial)
  have dne : ∀ {z : Addr} {xs : List V}, H6 z = some (.lst xs) → z ≠ d := fun e y => by rw [y, ed6] at e; cases e
  refine k ⟨d, sh', D, sa', as', lv', rt, it, bl⟩ (upd H6 d (.dK (doK (cfgF p rows wd ks.length pl num other side inp ix) ⟨d, sh', D, sa', as', lv', rt, it, bl⟩ p.seed 100))) (kd6.priv nd) ⟨upd_same, kw.keep _ _ e26 (dne e26), kw.keep _ _ eD6 (dne eD6), ?_, kw.keep _ _ e4 (dne e4), ⟨avs, kw.keep _ _ e5 (dne e5), hA.mono fun _ _ q => (q.kp kd6).kp kw⟩, kw.keep _ _ e6 (dne e6), kw.tup _ _ (kd6.tup _ _ ert), kw.tup _ _ (kd6.tup _ _ eit), ?_⟩ ?_
  · exact All2.monoM (fun a' b' m r => r.kp kw (fun z => by
      obtain ⟨xs, _, e⟩ := b3 a' m
      exact dne e z)) hb6
  · simp only [LA.mut, List.nodup_cons, List.mem_cons, not_or]
    refine ⟨⟨(dne e26).symm, (dne eD6).symm, (dne e4).symm, (dne e5).symm, (dne e6).symm, fun m => ?_⟩, ⟨ne_of_none e2 nD, ne_of_none e23 nsa, ne_of_none e23 nas3, ne_of_none e23 nlv3, fun m => ?_⟩, ⟨ne_of_none eD nsa, ne_of_none eD nas3, ne_of_none eD nlv3, hDn⟩, ⟨x1, x2, fun m => ?_⟩, ⟨x3, fun m => ?_⟩, fun m => ?_, hnd⟩
    · obtain ⟨xs, _, e⟩ := b3 _ m
      exact dne e rfl
    · have := hfr _ m
      rw [e2] at this
      cases this
    · obtain ⟨xs, e, _⟩ := b3 _ m
      rw [nsa] at e
      cases e
    · obtain ⟨xs, e, _⟩ := b3 _ m
      rw [nas3] at e
      cases e
    · obtain ⟨xs, e, _⟩ := b3 _ m
      rw [nlv3] at e
      cases e
  · intro z m
    simp only [Md, LA.mut, List.mem_cons] at m
    rcases m with y | y | y | y | y | y | y
    · rw [y]; exact nd
    · rw [y]; exact kd.free nsh
    · rw [y]; exact kd2.free nD
    · rw [y]; exact kd3.free nsa
    · rw [y]; exact kd3.free nas3
    · rw [y]; exact kd3.free nlv3
    · exact kd2.free (hfr z y)
end
end G
set_option Elab.async false
set_option linter.all false
set_option maxRecDepth 100000
set_option maxHeartbeats 4000000
namespace G
open PySem PySem.Spec PyProof.Rows L2
def insF (n : Int) : List Int → List Int
  | [] => [n]
  | x :: r => if n < x then n :: x :: r else if n = x then x :: r else x :: insF n r
theorem insF_mem {n x : Int} : ∀ {l : List Int}, x ∈ insF n l ↔ x = n ∨ x ∈ l
  | [] => by simp [insF]
  | y :: r => by
    unfold insF
    split
    · simp
    · split
      · rename_i h
        subst h
        simp
      · rw [List.mem_cons, insF_mem (l := r), List.mem_cons]
        constructor
        · rintro (h | h | h)
          · exact .inr (.inl h)
          · exact .inl h
          · exact .inr (.inr h)
        · rintro (h | h | h)
          · exact .inr (.inl h)
          · exact .inl h
          · exact .inr (.inr h)
theorem insF_asc {n : Int} : ∀ {l : List Int}, l.Pairwise (· < ·) → (insF n l).Pairwise (· < ·)
  | [], _ => List.pairwise_singleton _ _
  | y :: r, h => by
    obtain ⟨h1, h2⟩ := List.pairwise_cons.mp h
    unfold insF
    split
    · rename_i q
      refine List.pairwise_cons.mpr ⟨fun z hz => ?_, h⟩
      rcases List.mem_cons.mp hz with e | e
      · rw [e]; exact q
      · have := h1 z e
        omega
    · split
      · exact h
      · refine List.pairwise_cons.mpr ⟨fun z hz => ?_, insF_asc h2⟩
        rcases insF_mem.mp hz with e | e
        · rw [e]; omega
        · exact h1 z e
theorem insF_perm {n : Int} : ∀ {l : List Int}, n ∉ l → (insF n l).Perm (l ++ [n])
  | [], _ => List.Perm.refl _
  | y :: r, h => by
    have hy : n ≠ y := fun e => h (by rw [e]; exact List.mem_cons_self ..)
    have hr : n ∉ r := fun e => h (List.mem_cons_of_mem _ e)
    unfold insF
    split
    · exact (List.perm_append_comm (l₁ := [n]) (l₂ := y :: r))
    · exact (insF_perm hr).cons y
theorem insF_id {n : Int} : ∀ {l : List Int}, l.Pairwise (· < ·) → n ∈ l → insF n l = l
  | [], _, h => absurd h (by simp)
  | y :: r, h, m => by
    obtain ⟨h1, h2⟩ := List.pairwise_cons.mp h
    unfold insF
    rcases List.mem_cons.mp m with e | e
    · rw [if_neg (by omega), if_pos e]
    · have := h1 n e
      rw [if_neg (by omega), if_neg (by omega), insF_id h2 e]
theorem insF_len (n : Int) : ∀ l : List Int, (insF n l).length ≤ l.length + 1
  | [] => Nat.le_refl _
  | y :: r => by
    unfold insF
    split
    · exact Nat.le_refl _
    · split
      · exact Nat.le_succ _
      · have := insF_len n r
        simp only [List.length_cons]
        omega
/-- who leaves, in order -/
def lvS (c : Cfg) (s : S) : List Int := if s.gone = true then insF c.num c.lv0 else c.lv0
theorem lvS_asc {c : Cfg} (h : WfC c) (s : S) : (lvS c s).Pairwise (· < ·) := by
  unfold lvS
  split
  · exact insF_asc h.asc
  · exact h.asc
theorem lvS_perm {c : Cfg} (h : WfC c) (s : S) : (lvS c s).Perm (lvF c s) := by
  unfold lvS lvF
  by_cases g : s.gone = true
  · rw [if_pos g]
    by_cases m : c.num ∈ c.lv0
    · rw [if_neg (fun q => q.2 m), insF_id h.asc m]
    · rw [if_pos ⟨g, m⟩]
      exact insF_perm m
  · rw [if_neg g, if_neg (fun q => g q.1)]
theorem sorted_is {c : Cfg} (h : WfC c) {s : S} {ns : List Int} (p : ns.Perm (lvF c s)) (q : ns.Pairwise (· ≤ ·)) : ns = lvS c s :=
  List.Perm.eq_of_pairwise (fun a b _ _ x y => Int.le_antisymm x y) q ((lvS_asc h s).imp fun x => Int.le_of_lt x) (p.trans (lvS_perm h s).symm)
def ptsF (c : Cfg) (s : S) : Pts := ⟨c.tick, s.seed, s.sh, s.bs, s.said, s.asked, lvS c s⟩
def spDone : Sp := fun vs H Q _ => ∃ (A : LA) (c : Cfg) (s : S) (f : Int), vs = [.ref A.d] ∧ LD H A c s f ∧ WfS c s ∧ WfC c ∧ ∀ v H', Kp M0 H H' → PtsAt H' v (ptsF c s) → Q v H'
section
variable {P : Program} {w : World} {K : PySem.W.Frag} {mg : Str → Option Value} {base : Heap}
theorem scl_done : FnScope ["_law_doing_here", "_law_b"] ["_law_doing_here"] (defScope sl_done) := ⟨rfl, rfl, rfl, by decide +kernel, rfl, by decide +kernel, by decide +kernel⟩
theorem ok_l_done (T : Tx w K mg) : Cal P w K mg base "_law_done" 1 ["_law_doing_here"] spDone := by
  obtain ⟨fd, F⟩ : ∃ fd, Fun K "_law_done" "_law_done" sl_done 910 fd := T.fn 90 _ rfl
  refine T.cal F 149 rfl (fun _ _ _ _ _ _ us hl => match us, hl with | [_], _ => rfl) ?_
  refine F.ok scl_done (fun vs H Q E h => ?_) (fun cdv A outer s H vs Q E hr h => ?_)
  · obtain ⟨A, c, s, f, rfl, _⟩ := h
    rfl
  obtain ⟨A, c, s, f, rfl, hD, hw, hc, k⟩ := h
  have hu := hu_of hr
  refine ⟨_, (pss_one (ps_ret (pe_tup (pa_cons (pe_dget hu (pv 0) pe_str (fun _ _ => rfl)) (pa_cons (pe_dget hu (pv 0) pe_str (fun _ _ => rfl)) (pa_cons (pe_callTy call_tuple_of rfl (fr_tuple T) (by decide +kernel) (pa_cons (pe_dget hu (pv 0) pe_str (fun _ _ => rfl)) pa_nil)) (pa_cons (pe_callTy call_tuple_of rfl (fr_tuple T) (by decide +kernel) (pa_cons (pe_lc (own := [("_law_b", 1)]) (g := gName 1) (by rfl) scl_done.nd (pi_list (pe_dget hu (pv 0) pe_str (fun _ _ => rfl))) (blkOk_by (own := [("_law_b", 1)]) (N := ["_law_doing_here", "_law_b"]) (sc := defScope sl_done) (by decide +kernel)) (fun _ _ _ _ _ => pg_name (i := 1) scl_done.nd rfl (Or.inl rfl)) (fun _ _ _ _ _ => pts_nil) (fun _ _ _ _ _ => (pe_callTy ((show CallR _ _ (rTof K) from call_tuple_of)) rfl (fr_tuple T) (by decide +kernel) (pa_cons (pv 1) pa_nil)))) pa_nil)) (pa_cons (pe_callTy call_tuple_of rfl (fr_tuple T) (by decide +kernel) (pa_cons (pe_dget hu (pv 0) pe_str (fun _ _ => rfl)) pa_nil)) (pa_cons (pe_callTy call_tuple_of rfl (fr_tuple T) (by decide +kernel) (pa_cons (pe_dget hu (pv 0) pe_str (fun _ _ => rfl)) pa_nil)) (pa_cons (pe_callTy call_tuple_of rfl (fr_tuple T) (by decide +kernel) (pa_cons (pe_callB cr_sorted rfl (fr_sorted T) (by decide +kernel) (pa_cons (pe_dget hu (pv 0) pe_str (fun _ _ => rfl)) pa_nil)) pa_nil)) pa_nil)))))))))), ?_⟩
  have h5 := hw.bs.len
  have hbl := hD.bl.len
  obtain ⟨avs, eas, hA⟩ := hD.as
  refine ⟨_, rfl, A.d, _, rfl, hD.key doK_tick, _, rfl, A.d, _, rfl, hD.key doK_seed, _, rfl, A.d, _, rfl, hD.key doK_sh, A.sh, _, rfl, .inl ⟨SqL.of hD.sh, fun sh nsh => ?_⟩⟩
  have k1 : Kp M0 H (upd H sh (.tup (s.sh.map V.int))) := Kp.new nsh
  have e1 : (upd H sh (.tup (s.sh.map V.int))) sh = some (.tup (s.sh.map V.int)) := upd_same
  have hD1 := hD.kp0 k1
  generalize upd H sh (.tup (s.sh.map V.int)) = H1 at k1 e1 hD1
  refine ⟨_, rfl, A.d, _, rfl, hD1.key doK_bo, A.bo, rfl, ⟨_, SqL.of hD1.bo⟩, fun D nD => ?_⟩
  refine lc_list (xs := A.bl.map V.ref) (fun j Hj => Kp M0 H1 Hj ∧ ∃ vs, Hj D = some (.lst vs) ∧ All2 (BoAt Hj) vs (s.bs.take j) ∧ vs.length = j) ?_ (fun i Hj _ ⟨kp, _⟩ => SqL.of (kp.keep _ _ hD1.bo id)) ?_ ?_
  · exact ⟨Kp.new nD, [], upd_same, trivial, rfl⟩
  · rintro j x Hj hj ⟨kpj, vs, eD, hv, hl⟩
    rw [List.getElem?_map] at hj
    cases q : A.bl[j]? with
    | none => rw [q] at hj; cases hj
    | some p =>
      rw [q] at hj
      cases hj
      have hDj := hD1.kp0 kpj
      obtain ⟨b, eb, cc, ep, ec⟩ := hDj.bl.getL q
      have jl := (List.getElem?_eq_some_iff.mp q).1
      refine ⟨rfl, _, rfl, p, _, rfl, .inl ⟨SqL.of ep, fun t nt => ?_⟩⟩
      have kt : Kp M0 Hj (upd Hj t (.tup (blV b cc))) := Kp.new nt
      have eD2 := kt.keep _ _ eD id
      have kw : Kp (fun z => z = D) (upd Hj t (.tup (blV b cc))) (upd (upd Hj t (.tup (blV b cc))) D (.lst (vs ++ [.ref t]))) := Kp.rfl.set rfl (not_tup eD2 trivial)
      refine ⟨vs, eD2, Nat.lt_of_le_of_lt (show vs.length ≤ 100 by omega) (by decide), (kpj.trans kt).priv nD, vs ++ [.ref t], upd_same, ?_, by rw [List.length_append, hl]; rfl⟩
      rw [List.take_add_one, eb]
      exact All2.snoc (hv.mono fun _ _ r => (r.kp kt).kp kw) ⟨t, cc, rfl, kw.tup _ _ upd_same, kw.tup _ _ (kt.tup _ _ ec)⟩
  rintro H2 ⟨kp2, vs, eD, hv, hl⟩
  rw [List.length_map, show A.bl.length = s.bs.length from hbl, List.take_length] at hv
  have hD2 := hD1.kp0 kp2
  refine ⟨D, _, rfl, .inl ⟨SqL.of eD, fun bo nbo => ?_⟩⟩
  have k3 : Kp M0 H2 (upd H2 bo (.tup vs)) := Kp.new nbo
  have hD3 := hD2.kp0 k3
  have e3 : (upd H2 bo (.tup vs)) bo = some (.tup vs) := upd_same
  generalize upd H2 bo (.tup vs) = H3 at k3 hD3 e3
  refine ⟨_, rfl, A.d, _, rfl, hD3.key doK_sa, A.sa, _, rfl, .inl ⟨SqL.of hD3.sa, fun sa nsa => ?_⟩⟩
  have k4 : Kp M0 H3 (upd H3 sa (.tup (s.said.map V.int))) := Kp.new nsa
  have hD4 := hD3.kp0 k4
  have e4 : (upd H3 sa (.tup (s.said.map V.int))) sa = some (.tup (s.said.map V.int)) := upd_same
  generalize upd H3 sa (.tup (s.said.map V.int)) = H4 at k4 hD4 e4
  have k14 := k1.trans (kp2.trans (k3.trans k4))
  refine ⟨_, rfl, A.d, _, rfl, hD4.key doK_as, A.as, _, rfl, .inl ⟨SqL.of (k14.keep _ _ eas id), fun as nas => ?_⟩⟩
  have k5 : Kp M0 H4 (upd H4 as (.tup avs)) := Kp.new nas
  have hD5 := hD4.kp0 k5
  have e5 : (upd H4 as (.tup avs)) as = some (.tup avs) := upd_same
  generalize upd H4 as (.tup avs) = H5 at k5 hD5 e5
  refine ⟨_, rfl, A.d, _, rfl, hD5.key doK_lv, A.lv, _, rfl, SqL.of hD5.lv, ?_, fun ns l hperm hsort nl => ?_⟩
  · rw [← (lvS_perm hc s).length_eq]
    have := hc.ll
    have h2 := insF_len c.num c.lv0
    unfold lvS
    split <;> omega
  have ens := sorted_is hc hperm hsort
  subst ens
  have k6 : Kp M0 H5 (upd H5 l (.lst ((lvS c s).map V.int))) := Kp.new nl
  refine ⟨l, _, rfl, .inl ⟨SqL.of upd_same, fun lt nlt => ?_⟩⟩
  have k7 : Kp M0 (upd H5 l (.lst ((lvS c s).map V.int))) (upd (upd H5 l (.lst ((lvS c s).map V.int))) lt (.tup ((lvS c s).map V.int))) := Kp.new nlt
  refine ⟨(by show 7 ≤ sizeLine; decide), fun t nt => ?_⟩
  have k8 : Kp M0 (upd (upd H5 l (.lst ((lvS c s).map V.int))) lt (.tup ((lvS c s).map V.int))) (upd (upd (upd H5 l (.lst ((lvS c s).map V.int))) lt (.tup ((lvS c s).map V.int))) t (.tup [.int c.tick, .int s.seed, .ref sh, .ref bo, .ref sa, .ref as, .ref lt])) := Kp.new nt
  have k68 := k6.trans (k7.trans k8)
  have k58 := k5.trans k68
  have k48 := k4.trans k58
  have kall := k14.trans k58
  refine k _ _ kall ⟨t, sh, bo, sa, as, lt, rfl, upd_same, ⟨(kp2.trans (k3.trans k48)).tup _ _ e1, ⟨vs, k48.tup _ _ e3, hv.mono fun _ _ r => r.kp (k3.trans k48)⟩, k58.tup _ _ e4, ⟨avs, k68.tup _ _ e5, hA.mono fun _ _ r => r.kp kall⟩, k8.tup _ _ upd_same⟩⟩
end
end G
set_option Elab.async false
set_option linter.all false
set_option maxRecDepth 100000
set_option maxHeartbeats 4000000
namespace G
open PySem PySem.Spec PyProof.Rows L2
def hsOf (kd : Kd) (e : Ev) : Option (List Sm) := match kd.hs with
  | none => none
  | some f => f e
/-- what an event makes of the parts -/
def DueR (p : Pts) (rows : List (List Nat)) (wd : Nat) (ks : List Kd) (pl num : Int) (e : Ev) (other side : Int) (inp : List Int) (p' : Pts) : Prop :=
  ∃ (ix : Nat) (b : Bod) (kd : Kd), p.bs[ix]? = some b ∧ b.num = num ∧ ks[b.kind.toNat]? = some kd ∧
    ((hsOf kd e = none ∧ p' = p) ∨ ∃ l r s', hsOf kd e = some l ∧ Runs (cfgF p rows wd ks.length pl num other side inp ix) (.body l) (st0F p) r s' ∧ p' = ptsF (cfgF p rows wd ks.length pl num other side inp ix) s')
theorem DueR.det {p : Pts} {rows : List (List Nat)} {wd : Nat} {ks : List Kd} {pl num : Int} {e : Ev} {other side : Int} {inp : List Int} {p1 p2 : Pts} {nk : Int} (hb : BodsOk nk pl p.bs)
    (h : DueR p rows wd ks pl num e other side inp p1) (g : DueR p rows wd ks pl num e other side inp p2) : p1 = p2 := by
  obtain ⟨ix, b, kd, h1, h2, h3, h4⟩ := h
  obtain ⟨ix2, b2, kd2, g1, g2, g3, g4⟩ := g
  have e1 := num_inj hb.asc h1 g1 (h2.trans g2.symm)
  subst e1
  have e2 : b = b2 := Option.some.inj (h1.symm.trans g1)
  subst e2
  have e3 : kd = kd2 := Option.some.inj (h3.symm.trans g3)
  subst e3
  rcases h4 with ⟨q1, q2⟩ | ⟨l, r, s', q1, q2, q3⟩ <;> rcases g4 with ⟨z1, z2⟩ | ⟨l2, r2, s2, z1, z2, z3⟩
  · rw [q2, z2]
  · rw [q1] at z1; cases z1
  · rw [q1] at z1; cases z1
  · have e4 : l = l2 := Option.some.inj (q1.symm.trans z1)
    subst e4
    rw [q3, z3, (q2.det z2).2]
structure SetOk (rows : List (List Nat)) (wd : Nat) (ks : List Kd) (pl : Int) (inp : List Int) : Prop where
  ro : RowsOk rows wd
  kl : ks.length ≤ 8
  p4 : pl ≤ 4
  il : (inp.length : Int) = pl
  ib : ∀ n ∈ inp, 0 ≤ n ∧ n ≤ 255
theorem cfg_wf {p : Pts} {rows : List (List Nat)} {wd : Nat} {ks : List Kd} {pl num other side : Int} {inp : List Int} {ix r : Nat} (h : PtsOk ks.length pl r p) (hr : r ≤ 15) (g : SetOk rows wd ks pl inp) :
    WfC (cfgF p rows wd ks.length pl num other side inp ix) := ⟨g.il, g.ib, by have := g.kl; show (ks.length : Int) ≤ 8; omega, g.p4, g.ro, h.asc, by have := h.lv; show p.lv.length ≤ 20; omega⟩
theorem st0_wf {p : Pts} {rows : List (List Nat)} {wd : Nat} {nk pl num other side : Int} {inp : List Int} {ix r : Nat} {b : Bod} (h : PtsOk nk pl r p) (e : p.bs[ix]? = some b) (en : b.num = num) :
    WfS (cfgF p rows wd nk pl num other side inp ix) (st0F p) := by
  refine ⟨h.sh, h.bs, (List.getElem?_eq_some_iff.mp e).1, ?_, h.s0, h.s1, h.sa, h.as, Nat.le_refl _⟩
  show (p.bs.getD ix b0).num = num
  rw [List.getD_eq_getElem?_getD, e]
  exact en
theorem pts_next {p : Pts} {rows : List (List Nat)} {wd : Nat} {nk pl num other side : Int} {inp : List Int} {ix r : Nat} {s : S} (h : PtsOk nk pl r p) (wc : WfC (cfgF p rows wd nk pl num other side inp ix)) (ws : WfS (cfgF p rows wd nk pl num other side inp ix) s) :
    PtsOk nk pl (r + 1) (ptsF (cfgF p rows wd nk pl num other side inp ix) s) := by
  refine ⟨ws.sh, ws.bs, ws.sa, ws.as, lvS_asc wc s, ?_, ws.s0, ws.s1⟩
  have h1 := h.lv
  have h2 := insF_len num p.lv
  show (lvS _ s).length ≤ 5 + (r + 1)
  unfold lvS
  split
  · show (insF num p.lv).length ≤ _
    omega
  · show p.lv.length ≤ _
    omega
theorem DueR.ok {p : Pts} {rows : List (List Nat)} {wd : Nat} {ks : List Kd} {pl num : Int} {e : Ev} {other side : Int} {inp : List Int} {p1 : Pts} {r : Nat} (hp : PtsOk ks.length pl r p) (hr : r ≤ 15) (g : SetOk rows wd ks pl inp)
    (h : DueR p rows wd ks pl num e other side inp p1) : PtsOk ks.length pl (r + 1) p1 ∧ 1 ≤ p1.bs.length := by
  obtain ⟨ix, b, kd, h1, h2, h3, h4⟩ := h
  rcases h4 with ⟨q1, q2⟩ | ⟨l, b2, s', q1, q2, q3⟩
  · rw [q2]
    exact ⟨⟨hp.sh, hp.bs, hp.sa, hp.as, hp.asc, Nat.le_trans hp.lv (by omega), hp.s0, hp.s1⟩, by have := (List.getElem?_eq_some_iff.mp h1).1; omega⟩
  · rw [q3]
    have hw := (q2.wf (st0_wf hp h1 h2)).1
    exact ⟨pts_next hp (cfg_wf hp hr g) hw, by have := hw.ix; show 1 ≤ s'.bs.length; omega⟩
def spDue : Sp := fun vs H Q _ => ∃ (v rv ev : V) (a it : Addr) (p : Pts) (rows : List (List Nat)) (wd : Nat) (ks : List Kd) (pl num : Int) (e : Ev) (other side : Int) (inp : List Int) (r : Nat), vs = [v, rv, .ref a, ev, .ref it] ∧
  PtsAt H v p ∧ RowsAt H rv rows ∧ KsAt H a ks ∧ EventAt H ev num e other side ∧ H it = some (.tup (inp.map V.int)) ∧ PtsOk ks.length pl r p ∧ r ≤ 15 ∧ SetOk rows wd ks pl inp ∧ num ∈ p.bs.map (·.num) ∧
  ∀ u H' p', Kp M0 H H' → DueR p rows wd ks pl num e other side inp p' → PtsAt H' u p' → Q u H'
section
variable {P : Program} {w : World} {K : PySem.W.Frag} {mg : Str → Option Value} {base : Heap}
theorem scl_due : FnScope ["_law_parts", "_law_rows_here", "_law_kinds", "_law_event_here", "_law_inputs_here", "_law_number", "_law_kind", "_law_body_here", "_law_handlers_here", "_law_doing_here"] ["_law_parts", "_law_rows_here", "_law_kinds", "_law_event_here", "_law_inputs_here"] (defScope sl_due) := ⟨rfl, rfl, rfl, by decide +kernel, rfl, by decide +kernel, by decide +kernel⟩
theorem ok_l_due (T : Tx w K mg) : Cal P w K mg base "_law_due" 28 ["_law_parts", "_law_rows_here", "_law_kinds", "_law_event_here", "_law_inputs_here"] spDue := by
  obtain ⟨fd, F⟩ : ∃ fd, Fun K "_law_due" "_law_due" sl_due 1069 fd := T.fn 115 _ rfl
  refine T.cal F 174 rfl (fun _ _ _ _ _ _ us hl => match us, hl with | [_, _, _, _, _], _ => rfl) ?_
  refine F.ok scl_due (fun vs H Q E h => ?_) (fun cdv A outer s H vs Q E hr h => ?_)
  · obtain ⟨v, rv, ev, a, it, p, rows, wd, ks, pl, num, e, other, side, inp, r, rfl, _⟩ := h
    rfl
  obtain ⟨v, rv, ev, a, it, p, rows, wd, ks, pl, num, e, other, side, inp, r, rfl, hPt, hR, hK, ⟨te, rfl, ete⟩, eit, hok, hr15, hset, hmem, k⟩ := h
  have hu := hu_of hr
  refine ⟨_, (pss_cons (ps_set (i := 5) scl_due.nd rfl (Or.inr rfl) (pe_ix ix_tup (pv 3) pe_int (fun _ _ => rfl)))
    (pss_cons (ps_set (i := 6) scl_due.nd rfl (Or.inl rfl) (pe_ix ix_list (pe_lc (own := [("_law_body_here", 7)]) (g := gName 7) (by rfl) scl_due.nd (pi_tup (pe_ix ix_tup (pv 0) pe_int (fun _ _ => rfl))) (blkOk_by (own := [("_law_body_here", 7)]) (N := ["_law_parts", "_law_rows_here", "_law_kinds", "_law_event_here", "_law_inputs_here", "_law_number", "_law_kind", "_law_body_here", "_law_handlers_here", "_law_doing_here"]) (sc := defScope sl_due) (by decide +kernel)) (fun _ _ _ _ _ => pg_name (i := 7) scl_due.nd rfl (Or.inl rfl)) (fun _ _ _ _ _ => (pts_one (pt_cmpR op_eq (pe_ix (show IxR _ (rIxT K) from ix_tup) (pv 7) pe_int (fun _ _ => rfl)) (pv 5) (nomark _)))) (fun _ _ _ _ _ => (pe_ix (show IxR _ (rIxT K) from ix_tup) (pv 7) pe_int (fun _ _ => rfl)))) pe_int (fun _ _ => rfl)))
    (pss_cons (ps_set (i := 8) scl_due.nd rfl (Or.inl rfl) (pe_ix ix_tup (pe_ix ix_list (pv 2) (pv 6) (fun _ _ => rfl)) pe_int (fun _ _ => rfl)))
    (pss_cons (ps_if (PW.pt (pw_or (pt_cmpR op_isN (pv 8) pe_non (nomark _)) (pw_or1 (pt_cmp (pc_dnotin hu (pe_ix ix_tup (pv 3) pe_int (fun _ _ => rfl)) (pv 8)))))) (pss_one (ps_ret (pv 0))) pss_nil)
    (pss_cons (ps_set (i := 9) scl_due.nd rfl (Or.inl rfl) (pe_k (ok_l_doing T) (hr.mono (by decide)) (pa_cons (pv 0) (pa_cons (pv 1) (pa_cons (pv 2) (pa_cons (pv 5) (pa_cons (pe_ix ix_tup (pv 3) pe_int (fun _ _ => rfl)) (pa_cons (pe_ix ix_tup (pv 3) pe_int (fun _ _ => rfl)) (pa_cons (pv 4) pa_nil)))))))))
    (pss_cons (ps_expr (pe_k (ok_l_run T 5) (hr.mono (by decide)) (pa_cons (pv 9) (pa_cons (pe_dget hu (pv 8) (pe_ix ix_tup (pv 3) pe_int (fun _ _ => rfl)) (fun _ _ => rfl)) pa_nil))))
    (pss_one (ps_ret (pe_k (ok_l_done T) (hr.mono (by decide)) (pa_cons (pv 9) pa_nil)))))))))), ?_⟩
  obtain ⟨t, sh, bo, sa, as, lv, rfl, et, hp⟩ := hPt
  have hPt : PtsAt H (.ref t) p := ⟨t, sh, bo, sa, as, lv, rfl, et, hp⟩
  obtain ⟨bvs, eb, hB⟩ := hp.bo
  have hbl := hB.len
  have h5 := hok.bs.len
  obtain ⟨b, hbm, hbn⟩ := List.mem_map.mp hmem
  obtain ⟨ix, eix⟩ := List.getElem?_of_mem hbm
  have hbo := hok.bs.all b hbm
  obtain ⟨kd, ekd⟩ : ∃ kd, ks[b.kind.toNat]? = some kd := ⟨ks[b.kind.toNat]'(by have h1 := hbo.k0; have h2 := hbo.k1; omega), List.getElem?_eq_getElem _⟩
  refine ⟨_, rfl, te, _, 0, _, rfl, rfl, SqT.of ete, rfl, ?_⟩
  refine ⟨_, rfl, t, _, 3, _, rfl, rfl, SqT.of et, rfl, bo, rfl, ⟨_, SqT.of eb⟩, fun D nD => ?_⟩
  refine lc_tup (xs := bvs) (fun j Hj => Kp M0 H Hj ∧ Hj D = some (.lst (if ix < j then [V.int b.kind] else []))) ?_ (fun i Hj _ ⟨kp, _⟩ => SqT.of (kp.tup _ _ eb)) ?_ ?_
  · exact ⟨Kp.new nD, by rw [if_neg (Nat.not_lt_zero _)]; exact upd_same⟩
  · rintro j x Hj hj ⟨kpj, eD⟩
    obtain ⟨bj, ebj, ⟨tb, cb, rfl, etb, _⟩⟩ := hB.getL hj
    have etj := kpj.tup _ _ etb
    refine ⟨rfl, _, rfl, tb, _, 0, _, rfl, rfl, SqT.of etj, rfl, _, rfl, rfl, _, rfl, hit (fun cc => ?_) (fun cc => ?_)⟩
    · have c' : bj.num = num := by
        have := of_decide_eq_true cc
        simpa using this
      have ej := num_inj hok.bs.asc ebj eix (c'.trans hbn.symm)
      subst ej
      rw [eix] at ebj
      cases ebj
      rw [if_neg (Nat.lt_irrefl _)] at eD
      refine ⟨_, rfl, tb, _, 1, _, rfl, rfl, SqT.of etj, rfl, [], eD, (by show 0 < sizeLine; decide), kpj.priv nD, ?_⟩
      rw [upd_same, if_pos (Nat.lt_succ_self _)]
      rfl
    · have c' : bj.num ≠ num := fun z => by
        rw [z] at cc
        exact absurd cc (by simp)
      refine ⟨kpj, ?_⟩
      have nj : ix ≠ j := fun z => by
        rw [← z, eix] at ebj
        cases ebj
        exact c' hbn
      rw [eD]
      by_cases q : ix < j
      · rw [if_pos q, if_pos (by omega)]
      · rw [if_neg q, if_neg (by omega)]
  rintro H1 ⟨kp1, eD⟩
  rw [if_pos (by rw [hbl]; exact (List.getElem?_eq_some_iff.mp eix).1)] at eD
  refine ⟨D, _, 0, _, rfl, rfl, SqL.of eD, rfl, ?_⟩
  obtain ⟨kvs, eK, hKs, k1, k8⟩ := hK
  have hK : KsAt H a ks := ⟨kvs, eK, hKs, k1, k8⟩
  obtain ⟨kv, ekv, hkd⟩ := hKs.get ekd
  have eK1 := kp1.keep _ _ eK id
  have hkd1 := hkd.kp kp1 noD0
  have hPt1 := hPt.kp kp1
  have ete1 := kp1.tup _ _ ete
  obtain ⟨_, tk, hv, rfl, etk, ho⟩ := hkd1
  refine ⟨_, rfl, _, rfl, a, kvs, b.kind, _, rfl, rfl, SqL.of eK1, atI_of (j := b.kind.toNat) (by have := hbo.k0; omega) ekv, tk, _, 4, _, rfl, rfl, SqT.of etk, rfl, ?_⟩
  have stay : hsOf kd e = none → Q (.ref t) H1 := fun z => k _ _ p kp1 ⟨ix, b, kd, eix, hbn, ekd, .inl ⟨z, rfl⟩⟩ hPt1
  cases q : kd.hs with
  | none =>
    rw [q] at ho
    cases (show hv = .non from ho)
    exact ⟨_, rfl, rfl, _, rfl, iteT (iteT ⟨_, rfl, stay (by unfold hsOf; rw [q])⟩)⟩
  | some f =>
    rw [q] at ho
    obtain ⟨d, rfl, dvs, ed, _, _, hvs⟩ := ho
    have hv := hvs e
    refine ⟨_, rfl, rfl, _, rfl, hit (fun c => nomatch of_decide_eq_true c) (fun _ => ?_)⟩
    refine ⟨_, rfl, te, _, 1, _, rfl, rfl, SqT.of ete1, rfl, _, rfl, d, _, rfl, dget_of ed _, ?_⟩
    cases q2 : f e with
    | none =>
      rw [q2] at hv
      rw [show valV dvs (Sum.inr e.str) = none from hv]
      exact ⟨_, rfl, iteT ⟨_, rfl, stay (by unfold hsOf; rw [q]; exact q2)⟩⟩
    | some l =>
      rw [q2] at hv
      obtain ⟨tl, xs, e1, e2, e3, e4⟩ := hv
      rw [e1]
      obtain ⟨rt, rfl, ert⟩ := hR
      refine ⟨_, rfl, iteF ⟨_, rfl, _, rfl, _, rfl, _, rfl, _, rfl, te, _, 2, _, rfl, rfl, SqT.of ete1, rfl, _, rfl, te, _, 3, _, rfl, rfl, SqT.of ete1, rfl, _, rfl, .ref t, .ref rt, a, it, p, rows, wd, ks, pl, num, other, side, inp, ix, b, rfl, hPt1, ⟨rt, rfl, kp1.tup _ _ ert⟩, hK.kp kp1 noD0 id, kp1.tup _ _ eit, hok.bs, eix, hbn, fun A H2 kp2 hD hfr => ?_⟩⟩
      have ws := st0_wf (rows := rows) (wd := wd) (other := other) (side := side) (inp := inp) hok eix hbn
      have wc := cfg_wf (num := num) (other := other) (side := side) (ix := ix) hok hr15 hset
      refine ⟨_, rfl, _, rfl, _, rfl, te, _, 1, _, rfl, rfl, SqT.of (kp2.tup _ _ ete1), rfl, d, .ref tl, rfl, by rw [← e1]; exact dget_of (kp2.keep _ _ ed id) _, A, _, _, .ref tl, l, rfl, hD, ws, wc, ⟨tl, xs, rfl, kp2.tup _ _ e2, BdAt.kp kp2 _ _ e3⟩, e4.1, e4.2.2.2.1, fun b2 s' f' H3 hr kp3 hD3 _ => ?_⟩
      have k13 : Kp M0 H1 H3 := kp2.then kp3 fun z m => .inr (hfr z m)
      refine ⟨_, rfl, A, _, s', f', rfl, hD3, (hr.wf ws).1, wc, fun u H4 kp4 hp4 => ?_⟩
      exact k _ _ _ (kp1.trans (k13.trans kp4)) ⟨ix, b, kd, eix, hbn, ekd, .inr ⟨l, b2, s', by unfold hsOf; rw [q]; exact q2, hr, rfl⟩⟩ hp4
end
end G
set_option Elab.async false
set_option linter.all false
set_option maxRecDepth 100000
set_option maxHeartbeats 4000000
namespace G
open PySem PySem.Spec PyProof.Rows L2
def spSmall : Sp := fun vs H Q _ => ∃ n : Int, vs = [.int n] ∧ Q (.int (wrapF n)) H
def spNearer : Sp := fun vs H Q _ => ∃ n : Int, vs = [.int n, .int 16] ∧ Q (.int (nearF n)) H
def spLater : Sp := fun vs H Q _ => ∃ n : Int, vs = [.int n] ∧ 0 ≤ n ∧ n ≤ 2147483646 ∧ Q (.int (lateF n)) H
def spDraw : Sp := fun vs H Q _ => ∃ (n v : Int), vs = [.int n, .int v] ∧ 0 ≤ n ∧ n ≤ 2147483646 ∧
  ∀ p, H p = none → Q (.ref p) (upd H p (.tup [.int (if v < 1 then 0 else lateF n / 16 % v), .int (if v < 1 then n else lateF n)]))
def spWhole : Sp := fun vs H Q _ => ∃ (a b : Int), vs = [.int a, .int b] ∧ Sml b ∧ Q (.int (if b = 0 then 0 else a.fdiv b)) H
def spRestOf : Sp := fun vs H Q _ => ∃ (a b : Int), vs = [.int a, .int b] ∧ Q (.int (if b = 0 then 0 else a.fmod b)) H
def spTwoP : Sp := fun vs H Q _ => ∃ (c : Cfg) (w : W2) (a b : Int), vs = [.str w.str, .int a, .int b] ∧ w ≠ .cell ∧ Sml a ∧ Sml b ∧ Q (.int (twoF c w a b)) H
def spOneP : Sp := fun vs H Q _ => ∃ (c : Cfg) (s : S) (w : W1) (v : Int), vs = [.str w.str, .int v] ∧ (w = .not ∨ w = .minus) ∧ Q (.int (oneF c s w v).1) H
def spBit : Sp := fun vs H Q _ => ∃ (n v : Int), vs = [.int n, .int v] ∧ Q (.int (if 0 ≤ v ∧ v < 8 then n / 2 ^ v.toNat % 2 else 0)) H
def spSignP : Sp := fun vs H Q _ => ∃ (a : Addr) (rows : List (List Nat)) (wd : Nat) (x y : Int), vs = [.ref a, .int x, .int y] ∧ GdAt H a rows wd ∧ RowsOk rows wd ∧ Q (sg1 (signF rows wd x y)) H
def spMarkP : Sp := fun vs H Q _ => ∃ (a : Addr) (rows : List (List Nat)) (wd : Nat) (x y : Int), vs = [.ref a, .int x, .int y] ∧ GdAt H a rows wd ∧ RowsOk rows wd ∧ Q (.int (markF rows wd x y)) H
theorem sg_mark {c : Nat} (h : Sg c) : (!(Builtin.Str.occurrences ("0123456789" : Str) (⟨#[c]⟩ : Str) 0 ("0123456789" : Str).length 1).isEmpty) = decide (48 ≤ c ∧ c ≤ 57) := by
  have h2 : c = 35 ∨ c = 46 ∨ c = 48 ∨ c = 49 ∨ c = 50 ∨ c = 51 ∨ c = 52 ∨ c = 53 ∨ c = 54 ∨ c = 55 ∨ c = 56 ∨ c = 57 := by
    unfold Sg at h
    omega
  rcases h2 with q | q | q | q | q | q | q | q | q | q | q | q <;> subst q <;> decide +kernel
theorem near_is (n : Int) : (if (if n < 16 then n else 16) > -16 then (if n < 16 then n else 16) else -16) = nearF n := by
  unfold nearF
  by_cases h1 : n < 16
  · rw [if_pos h1, if_neg (show ¬ n > 16 by omega)]
    by_cases h2 : n < -16
    · rw [if_pos h2, if_neg (show ¬ n > -16 by omega)]
    · rw [if_neg h2]
      by_cases h3 : n > -16
      · rw [if_pos h3]
      · rw [if_neg h3]; omega
  · rw [if_neg h1, if_pos (show (16 : Int) > -16 by decide)]
    by_cases h2 : n > 16
    · rw [if_pos h2]
    · rw [if_neg h2, if_neg (show ¬ n < -16 by omega)]; omega
section
variable {P : Program} {w : World} {K : PySem.W.Frag} {mg : Str → Option Value} {base : Heap}
theorem scp_small : FnScope ["number"] ["number"] (defScope sp_small) := ⟨rfl, rfl, rfl, by decide +kernel, rfl, by decide +kernel, by decide +kernel⟩
theorem ok_p_small (T : Tx w K mg) : Cal P w K mg base "small" 1 ["number"] spSmall := by
  obtain ⟨fd, F⟩ : ∃ fd, Fun K "small" "small" sp_small 394 fd := T.fn 20 _ rfl
  refine T.cal F 82 rfl (fun _ _ _ _ _ _ us hl => match us, hl with | [_], _ => rfl) ?_
  refine F.ok scp_small (fun vs H Q E h => ?_) (fun cdv A outer s H vs Q E hr h => ?_)
  · obtain ⟨n, rfl, _⟩ := h
    rfl
  obtain ⟨n, rfl, k⟩ := h
  refine ⟨_, (pss_one (ps_ret (pe_op op_add (pe_op op_mod (pe_op op_sub (pv 0) (gc T 16 (.int (-2147483648)) rfl)) (gc T 79 (.int (4294967296)) rfl)) (gc T 16 (.int (-2147483648)) rfl)))), ?_⟩
  refine ⟨_, rfl, _, _, rfl, rfl, _, _, rfl, rfl, (by show (0:Int) < 4294967296; decide), _, _, rfl, rfl, ?_⟩
  show Q (.int ((n - -2147483648) % 4294967296 + -2147483648)) H
  rw [show (n - -2147483648) % 4294967296 + -2147483648 = wrapF n by unfold wrapF; omega]
  exact k
theorem scp_nearer : FnScope ["speed", "most"] ["speed", "most"] (defScope sp_nearer) := ⟨rfl, rfl, rfl, by decide +kernel, rfl, by decide +kernel, by decide +kernel⟩
theorem ok_p_nearer (T : Tx w K mg) : Cal P w K mg base "nearer" 1 ["speed", "most"] spNearer := by
  obtain ⟨fd, F⟩ : ∃ fd, Fun K "nearer" "nearer" sp_nearer 415 fd := T.fn 23 _ rfl
  refine T.cal F 86 rfl (fun _ _ _ _ _ _ us hl => match us, hl with | [_, _], _ => rfl) ?_
  refine F.ok scp_nearer (fun vs H Q E h => ?_) (fun cdv A outer s H vs Q E hr h => ?_)
  · obtain ⟨n, rfl, _⟩ := h
    rfl
  obtain ⟨n, rfl, k⟩ := h
  refine ⟨_, (pss_one (ps_ret (pe_callB (call_max2 rfl) rfl (fr_max T) (by decide +kernel) (pa_cons (pe_un un_neg (pv 1)) (pa_cons (pe_callB (call_min2 rfl) rfl (fr_min T) (by decide +kernel) (pa_cons (pv 1) (pa_cons (pv 0) pa_nil))) pa_nil))))), ?_⟩
  refine ⟨_, rfl, _, rfl, _, rfl, _, rfl, _, _, rfl, _, _, rfl, ?_⟩
  show Q (.int (if (if n < 16 then n else 16) > -16 then (if n < 16 then n else 16) else -16)) H
  rw [near_is n]
  exact k
theorem scp_later_seed : FnScope ["seed"] ["seed"] (defScope sp_later_seed) := ⟨rfl, rfl, rfl, by decide +kernel, rfl, by decide +kernel, by decide +kernel⟩
theorem ok_p_later_seed (T : Tx w K mg) : Cal P w K mg base "later_seed" 1 ["seed"] spLater := by
  obtain ⟨fd, F⟩ : ∃ fd, Fun K "later_seed" "later_seed" sp_later_seed 401 fd := T.fn 21 _ rfl
  refine T.cal F 83 rfl (fun _ _ _ _ _ _ us hl => match us, hl with | [_], _ => rfl) ?_
  refine F.ok scp_later_seed (fun vs H Q E h => ?_) (fun cdv A outer s H vs Q E hr h => ?_)
  · obtain ⟨n, rfl, _⟩ := h
    rfl
  obtain ⟨n, rfl, n0, n1, k⟩ := h
  refine ⟨_, (pss_one (ps_ret (pe_op op_mod (pe_op op_mul (pv 0) (gc T 81 (.int (48271)) rfl)) (gc T 80 (.int (2147483647)) rfl)))), ?_⟩
  exact ⟨_, rfl, _, _, rfl, rfl, .inr ⟨by decide, by decide⟩, _, _, rfl, rfl, (by show (0:Int) < 2147483647; decide), k⟩
theorem scp_draw : FnScope ["seed", "below", "later"] ["seed", "below"] (defScope sp_draw) := ⟨rfl, rfl, rfl, by decide +kernel, rfl, by decide +kernel, by decide +kernel⟩
theorem ok_p_draw (T : Tx w K mg) : Cal P w K mg base "draw_numbers" 2 ["seed", "below"] spDraw := by
  obtain ⟨fd, F⟩ : ∃ fd, Fun K "draw" "draw" sp_draw 408 fd := T.fn 22 _ rfl
  refine T.calA (y := "draw_numbers") F 85 rfl (fun _ _ _ _ _ _ us hl => match us, hl with | [_, _], _ => rfl) ?_
  refine F.ok scp_draw (fun vs H Q E h => ?_) (fun cdv A outer s H vs Q E hr h => ?_)
  · obtain ⟨n, v, rfl, _⟩ := h
    rfl
  obtain ⟨n, v, rfl, n0, n1, k⟩ := h
  refine ⟨_, (pss_cons (ps_if (pt_cmpR op_lt (pv 1) pe_int (nomark _)) (pss_one (ps_ret (pe_tup (pa_cons pe_int (pa_cons (pv 0) pa_nil))))) pss_nil)
    (pss_cons (ps_set (i := 2) scp_draw.nd rfl (Or.inl rfl) (pe_k (ok_p_later_seed T) (hr.mono (by decide)) (pa_cons (pv 0) pa_nil)))
    (pss_one (ps_ret (pe_tup (pa_cons (pe_op op_mod (pe_op op_fdiv (pv 2) pe_int) (pv 1)) (pa_cons (pv 2) pa_nil))))))), ?_⟩
  refine ⟨_, rfl, _, _, rfl, rfl, _, rfl, hit (fun z => ?_) (fun z => ?_)⟩
  · have z' : v < 1 := of_decide_eq_true z
    rw [if_pos z', if_pos z'] at k
    exact ⟨_, rfl, (by show 2 ≤ sizeLine; decide), k⟩
  · have z' : ¬ v < 1 := of_decide_eq_false z
    rw [if_neg z', if_neg z'] at k
    exact ⟨_, rfl, n, rfl, n0, n1, _, rfl, _, _, rfl, rfl, ⟨by decide, by decide⟩, _, rfl, _, _, rfl, rfl, (by omega), _, rfl, (by show 2 ≤ sizeLine; decide), k⟩
theorem scp_whole_part : FnScope ["one", "other"] ["one", "other"] (defScope sp_whole_part) := ⟨rfl, rfl, rfl, by decide +kernel, rfl, by decide +kernel, by decide +kernel⟩
theorem ok_p_whole_part (T : Tx w K mg) : Cal P w K mg base "whole_part" 1 ["one", "other"] spWhole := by
  obtain ⟨fd, F⟩ : ∃ fd, Fun K "whole_part" "whole_part" sp_whole_part 586 fd := T.fn 42 _ rfl
  refine T.cal F 99 rfl (fun _ _ _ _ _ _ us hl => match us, hl with | [_, _], _ => rfl) ?_
  refine F.ok scp_whole_part (fun vs H Q E h => ?_) (fun cdv A outer s H vs Q E hr h => ?_)
  · obtain ⟨a, b, rfl, _⟩ := h
    rfl
  obtain ⟨a, b, rfl, hb, k⟩ := h
  refine ⟨_, (pss_one (ps_ret (pe_ifExp (pt_cmpR op_eq (pv 1) pe_int (nomark _)) pe_int (pe_op op_fdivB (pv 0) (pv 1))))), ?_⟩
  refine ⟨_, rfl, rfl, _, rfl, hit (fun z => ?_) (fun z => ?_)⟩
  · have z' : b = 0 := by
      have := of_decide_eq_true z
      simpa using this
    rw [if_pos z'] at k
    exact k
  · have z' : b ≠ 0 := fun y => by
      rw [y] at z
      exact absurd z (by decide)
    rw [if_neg z'] at k
    exact ⟨_, rfl, _, rfl, _, _, rfl, rfl, ⟨z', log_sml hb⟩, k⟩
theorem scp_rest_of : FnScope ["one", "other"] ["one", "other"] (defScope sp_rest_of) := ⟨rfl, rfl, rfl, by decide +kernel, rfl, by decide +kernel, by decide +kernel⟩
theorem ok_p_rest_of (T : Tx w K mg) : Cal P w K mg base "rest_of" 1 ["one", "other"] spRestOf := by
  obtain ⟨fd, F⟩ : ∃ fd, Fun K "rest_of" "rest_of" sp_rest_of 593 fd := T.fn 43 _ rfl
  refine T.cal F 100 rfl (fun _ _ _ _ _ _ us hl => match us, hl with | [_, _], _ => rfl) ?_
  refine F.ok scp_rest_of (fun vs H Q E h => ?_) (fun cdv A outer s H vs Q E hr h => ?_)
  · obtain ⟨a, b, rfl, _⟩ := h
    rfl
  obtain ⟨a, b, rfl, k⟩ := h
  refine ⟨_, (pss_one (ps_ret (pe_ifExp (pt_cmpR op_eq (pv 1) pe_int (nomark _)) pe_int (pe_op op_modN (pv 0) (pv 1))))), ?_⟩
  refine ⟨_, rfl, rfl, _, rfl, hit (fun z => ?_) (fun z => ?_)⟩
  · have z' : b = 0 := by
      have := of_decide_eq_true z
      simpa using this
    rw [if_pos z'] at k
    exact k
  · have z' : b ≠ 0 := fun y => by
      rw [y] at z
      exact absurd z (by decide)
    rw [if_neg z'] at k
    exact ⟨_, rfl, _, rfl, _, _, rfl, rfl, z', k⟩
theorem scp_power_bit : FnScope ["value", "bit"] ["value", "bit"] (defScope sp_power_bit) := ⟨rfl, rfl, rfl, by decide +kernel, rfl, by decide +kernel, by decide +kernel⟩
theorem ok_p_power_bit (T : Tx w K mg) : Cal P w K mg base "power_bit" 1 ["value", "bit"] spBit := by
  obtain ⟨fd, F⟩ : ∃ fd, Fun K "power_bit" "power_bit" sp_power_bit 579 fd := T.fn 41 _ rfl
  refine T.cal F 98 rfl (fun _ _ _ _ _ _ us hl => match us, hl with | [_, _], _ => rfl) ?_
  refine F.ok scp_power_bit (fun vs H Q E h => ?_) (fun cdv A outer s H vs Q E hr h => ?_)
  · obtain ⟨n, v, rfl, _⟩ := h
    rfl
  obtain ⟨n, v, rfl, k⟩ := h
  refine ⟨_, (pss_cons (ps_if (pt_not (pt_chain op_le op_lt pe_int (pv 1) pe_int)) (pss_one (ps_ret pe_int)) pss_nil)
    (pss_one (ps_ret (pe_op op_andM (pe_op op_shr (pv 0) (pv 1)) pe_int)))), ?_⟩
  refine ⟨_, rfl, _, _, rfl, rfl, _, rfl, hit (fun c1 => ?_) (fun c1 => ?_)⟩
  · have d1 : 0 ≤ v := of_decide_eq_true c1
    refine ⟨_, _, rfl, rfl, _, rfl, hit (fun c2 => ?_) (fun c2 => ?_)⟩
    · have d2 : ¬ v < 8 := by simpa using c2
      rw [if_neg (fun h => d2 h.2)] at k
      exact k
    · have d2 : v < 8 := by simpa using c2
      rw [if_pos ⟨d1, d2⟩] at k
      exact ⟨_, rfl, _, rfl, _, _, rfl, rfl, d1, _, 1, rfl, rfl, k⟩
  · have d1 : ¬ 0 ≤ v := of_decide_eq_false c1
    rw [if_neg (fun h => d1 h.1)] at k
    exact ⟨_, rfl, iteT k⟩
theorem scp_of_one : FnScope ["word", "one"] ["word", "one"] (defScope sp_of_one) := ⟨rfl, rfl, rfl, by decide +kernel, rfl, by decide +kernel, by decide +kernel⟩
theorem ok_p_of_one (T : Tx w K mg) : Cal P w K mg base "of_one" 2 ["word", "one"] spOneP := by
  obtain ⟨fd, F⟩ : ∃ fd, Fun K "of_one" "of_one" sp_of_one 607 fd := T.fn 45 _ rfl
  refine T.cal F 102 rfl (fun _ _ _ _ _ _ us hl => match us, hl with | [_, _], _ => rfl) ?_
  refine F.ok scp_of_one (fun vs H Q E h => ?_) (fun cdv A outer s H vs Q E hr h => ?_)
  · obtain ⟨c, s, w, v, rfl, _⟩ := h
    rfl
  obtain ⟨c, s, w, v, rfl, hw, k⟩ := h
  refine ⟨_, (pss_one (ps_ret (pe_ifExp (pt_cmpR op_eq (pv 0) pe_str (nomark _)) (pe_callTy call_int1 rfl (fr_int T) (by decide +kernel) (pa_cons (pe_cmpR op_eq (pv 1) pe_int (nomark _)) pa_nil)) (pe_k (ok_p_small T) (hr.mono (by decide)) (pa_cons (pe_un un_neg (pv 1)) pa_nil))))), ?_⟩
  rcases hw with rfl | rfl
  · refine ⟨_, rfl, rfl, _, rfl, hit (fun _ => ?_) (fun c => absurd c (by decide +kernel))⟩
    refine ⟨_, rfl, rfl, .inr ⟨_, rfl, ?_⟩⟩
    rw [show (oneF c s .not v).1 = (if decide (V.int v = V.int 0) = true then 1 else 0) by simp [oneF]] at k
    exact k
  · refine ⟨_, rfl, rfl, _, rfl, hit (fun c => absurd c (by decide +kernel)) (fun _ => ?_)⟩
    refine ⟨_, rfl, _, rfl, _, rfl, ?_⟩
    rw [show (oneF c s .minus v).1 = wrapF (-v) by show wrapF (0 - v) = _; rw [Int.zero_sub]] at k
    exact k
theorem scp_sign_of : FnScope ["ground", "x", "y"] ["ground", "x", "y"] (defScope sp_sign_of) := ⟨rfl, rfl, rfl, by decide +kernel, rfl, by decide +kernel, by decide +kernel⟩
theorem ok_p_sign_of (T : Tx w K mg) : Cal P w K mg base "sign_of" 1 ["ground", "x", "y"] spSignP := by
  obtain ⟨fd, F⟩ : ∃ fd, Fun K "sign_of" "sign_of" sp_sign_of 209 fd := T.fn 8 _ rfl
  refine T.cal F 33 rfl (fun _ _ _ _ _ _ us hl => match us, hl with | [_, _, _], _ => rfl) ?_
  refine F.ok scp_sign_of (fun vs H Q E h => ?_) (fun cdv A outer s H vs Q E hr h => ?_)
  · obtain ⟨a, rows, wd, x, y, rfl, _⟩ := h
    rfl
  obtain ⟨a, rows, wd, x, y, rfl, ⟨dx, t, ea, et⟩, ok, k⟩ := h
  refine ⟨_, (pss_cons (ps_if (PW.pt (pw_and (pt_chain op_le op_lt pe_int (pv 1) (pe_fld (pv 0) rfl)) (pw_and1 (pt_chain op_le op_lt pe_int (pv 2) (pe_fld (pv 0) rfl))))) (pss_one (ps_ret (pe_ix ix_str (pe_ix ix_tup (pe_fld (pv 0) rfl) (pe_op op_fdiv (pv 2) (gc T 24 (.int (8)) rfl)) (fun _ _ => rfl)) (pe_op op_fdiv (pv 1) (gc T 24 (.int (8)) rfl)) (fun _ _ => rfl)))) pss_nil)
    (pss_one (ps_ret (gc T 29 (.str "#") rfl)))), ?_⟩
  have w2 := ok.w2
  have out : (x < 0 ∨ y < 0 ∨ x ≥ 8 * (wd : Int) ∨ y ≥ 8 * (rows.length : Int)) → Q (.str "#") H := fun z => by
    unfold signF at k
    rw [if_pos z] at k
    exact k
  have hx : x < 0 ∨ ¬ x < 0 := by omega
  refine ⟨_, rfl, _, _, rfl, rfl, _, rfl, hit (fun c1 => ?_) (fun c1 => ⟨_, rfl, iteF (out (.inl (by have := of_decide_eq_false c1; omega)))⟩)⟩
  have d1 := of_decide_eq_true c1
  refine ⟨_, rfl, a, cGround, _, _, _, rfl, ea, T.cl _ mem_cGround, T.no (cGround, "wide") (by simp [noL]), rfl, _, _, rfl, rfl, _, rfl, hit (fun c2 => ?_) (fun c2 => out (.inr (.inr (.inl (by have := of_decide_eq_false c2; omega)))))⟩
  have d2 := of_decide_eq_true c2
  refine ⟨_, rfl, _, _, rfl, rfl, _, rfl, hit (fun c3 => ?_) (fun c3 => ⟨_, rfl, iteF (out (.inr (.inl (by have := of_decide_eq_false c3; omega))))⟩)⟩
  have d3 := of_decide_eq_true c3
  refine ⟨_, rfl, a, cGround, _, _, _, rfl, ea, T.cl _ mem_cGround, T.no (cGround, "high") (by simp [noL]), rfl, _, _, rfl, rfl, _, rfl, hit (fun c4 => ?_) (fun c4 => out (.inr (.inr (.inr (by have := of_decide_eq_false c4; omega)))))⟩
  have d4 := of_decide_eq_true c4
  unfold signF at k
  rw [if_neg (by omega)] at k
  have h1 : (y / 8).toNat < rows.length := by omega
  have e1 : rows.getD (y / 8).toNat [] = rows[(y / 8).toNat] := by rw [List.getD_eq_getElem?_getD, List.getElem?_eq_getElem h1]; rfl
  have hr := ok.sg _ (List.getElem_mem h1)
  rw [e1] at k
  have h2 : (x / 8).toNat < rows[(y / 8).toNat].length := by rw [hr.1]; omega
  rw [List.getD_eq_getElem?_getD, List.getElem?_eq_getElem h2] at k
  refine ⟨_, rfl, a, cGround, _, _, _, rfl, ea, T.cl _ mem_cGround, T.no (cGround, "rows") (by simp [noL]), rfl, _, rfl, _, _, rfl, rfl, ⟨by decide, by decide⟩, t, _, _, rwV rows[(y / 8).toNat], rfl, rfl, SqT.of et, atI_of (j := (y / 8).toNat) (by omega) (by rw [List.getElem?_map, List.getElem?_eq_getElem h1]; rfl), _, rfl, _, _, rfl, rfl, ⟨by decide, by decide⟩, _, _, _, rfl, rfl, Nat.le_trans (show rows[(y / 8).toNat].length ≤ 12 by rw [hr.1]; exact w2) (by decide), atI_of (j := (x / 8).toNat) (by omega) (List.getElem?_eq_getElem h2), k⟩
theorem scp_mark_at : FnScope ["ground", "x", "y", "sign"] ["ground", "x", "y"] (defScope sp_mark_at) := ⟨rfl, rfl, rfl, by decide +kernel, rfl, by decide +kernel, by decide +kernel⟩
theorem ok_p_mark_at (T : Tx w K mg) : Cal P w K mg base "mark_at" 2 ["ground", "x", "y"] spMarkP := by
  obtain ⟨fd, F⟩ : ∃ fd, Fun K "mark_at" "mark_at" sp_mark_at 614 fd := T.fn 46 _ rfl
  refine T.cal F 105 rfl (fun _ _ _ _ _ _ us hl => match us, hl with | [_, _, _], _ => rfl) ?_
  refine F.ok scp_mark_at (fun vs H Q E h => ?_) (fun cdv A outer s H vs Q E hr h => ?_)
  · obtain ⟨a, rows, wd, x, y, rfl, _⟩ := h
    rfl
  obtain ⟨a, rows, wd, x, y, rfl, hg, ok, k⟩ := h
  refine ⟨_, (pss_cons (ps_set (i := 3) scp_mark_at.nd rfl (Or.inl rfl) (pe_k (ok_p_sign_of T) (hr.mono (by decide)) (pa_cons (pv 0) (pa_cons (pv 1) (pa_cons (pv 2) pa_nil)))))
    (pss_cons (ps_if (pt_cmpR op_eq (pv 3) (gc T 28 (.str ".") rfl) (nomark _)) (pss_one (ps_ret (gc T 103 (.int (10)) rfl))) pss_nil)
    (pss_one (ps_ret (pe_ifExp (pt_cmpR op_in_str (pv 3) (gc T 30 (.str "0123456789") rfl) (by rfl)) (pe_callTy call_int_str rfl (fr_int T) (by decide +kernel) (pa_cons (pv 3) pa_nil)) (gc T 104 (.int (11)) rfl)))))), ?_⟩
  refine ⟨_, rfl, _, rfl, _, rfl, a, rows, wd, x, y, rfl, hg, ok, ?_⟩
  have sg := signF_sg (x := x) (y := y) ok
  unfold markF at k
  show tSeq _ _ _ [some (.ref a), some (.int x), some (.int y), some (sg1 (signF rows wd x y))] H
  generalize signF rows wd x y = c at k sg
  refine ⟨_, rfl, rfl, _, rfl, ?_⟩
  rw [sg_free sg]
  refine hit (fun h => ?_) (fun h => ?_)
  · have h' : c = 46 := of_decide_eq_true h
    rw [if_neg (by omega), if_pos h'] at k
    exact k
  have h' : c ≠ 46 := of_decide_eq_false h
  refine ⟨_, rfl, _, _, rfl, rfl, _, rfl, ?_⟩
  rw [sg_mark sg]
  refine hit (fun h2 => ?_) (fun h2 => ?_)
  · have h2' : 48 ≤ c ∧ c ≤ 57 := of_decide_eq_true h2
    rw [if_neg (by omega), if_neg h'] at k
    exact ⟨_, rfl, _, _, rfl, sg_int h2', (by show 1 ≤ 640; decide), k⟩
  · have h2' : ¬ (48 ≤ c ∧ c ≤ 57) := of_decide_eq_false h2
    have h3 : c = 35 := by
      unfold Sg at sg
      omega
    rw [if_pos h3] at k
    exact k
end
end G
set_option Elab.async false
set_option linter.all false
set_option maxRecDepth 100000
set_option maxHeartbeats 4000000
namespace G
open PySem PySem.Spec PyProof.Rows L2
section
variable {P : Program} {w : World} {K : PySem.W.Frag} {mg : Str → Option Value} {base : Heap}
theorem scp_of_two : FnScope ["word", "one", "other"] ["word", "one", "other"] (defScope sp_of_two) := ⟨rfl, rfl, rfl, by decide +kernel, rfl, by decide +kernel, by decide +kernel⟩
theorem ok_p_of_two (T : Tx w K mg) : Cal P w K mg base "of_two" 3 ["word", "one", "other"] spTwoP := by
  obtain ⟨fd, F⟩ : ∃ fd, Fun K "of_two" "of_two" sp_of_two 600 fd := T.fn 44 _ rfl
  refine T.cal F 101 rfl (fun _ _ _ _ _ _ us hl => match us, hl with | [_, _, _], _ => rfl) ?_
  refine F.ok scp_of_two (fun vs H Q E h => ?_) (fun cdv A outer s H vs Q E hr h => ?_)
  · obtain ⟨c, w, a, b, rfl, _⟩ := h
    rfl
  obtain ⟨c, w, a, b, rfl, hw, ha, hb, k⟩ := h
  refine ⟨_, (pss_cons (ps_if (pt_cmpR op_eq (pv 0) pe_str (nomark _)) (pss_one (ps_ret (pe_k (ok_p_small T) (hr.mono (by decide)) (pa_cons (pe_op op_add (pv 1) (pv 2)) pa_nil)))) pss_nil)
    (pss_cons (ps_if (pt_cmpR op_eq (pv 0) pe_str (nomark _)) (pss_one (ps_ret (pe_k (ok_p_small T) (hr.mono (by decide)) (pa_cons (pe_op op_sub (pv 1) (pv 2)) pa_nil)))) pss_nil)
    (pss_cons (ps_if (pt_cmpR op_eq (pv 0) pe_str (nomark _)) (pss_one (ps_ret (pe_k (ok_p_small T) (hr.mono (by decide)) (pa_cons (pe_op op_mul (pv 1) (pv 2)) pa_nil)))) pss_nil)
    (pss_cons (ps_if (pt_cmpR op_eq (pv 0) pe_str (nomark _)) (pss_one (ps_ret (pe_k (ok_p_small T) (hr.mono (by decide)) (pa_cons (pe_k (ok_p_whole_part T) (hr.mono (by decide)) (pa_cons (pv 1) (pa_cons (pv 2) pa_nil))) pa_nil)))) pss_nil)
    (pss_cons (ps_if (pt_cmpR op_eq (pv 0) pe_str (nomark _)) (pss_one (ps_ret (pe_k (ok_p_small T) (hr.mono (by decide)) (pa_cons (pe_k (ok_p_rest_of T) (hr.mono (by decide)) (pa_cons (pv 1) (pa_cons (pv 2) pa_nil))) pa_nil)))) pss_nil)
    (pss_cons (ps_if (pt_cmpR op_eq (pv 0) pe_str (nomark _)) (pss_one (ps_ret (pe_callTy call_int1 rfl (fr_int T) (by decide +kernel) (pa_cons (pe_cmpR op_lt (pv 1) (pv 2) (nomark _)) pa_nil)))) pss_nil)
    (pss_cons (ps_if (pt_cmpR op_eq (pv 0) pe_str (nomark _)) (pss_one (ps_ret (pe_callTy call_int1 rfl (fr_int T) (by decide +kernel) (pa_cons (pe_cmpR op_eq (pv 1) (pv 2) (nomark _)) pa_nil)))) pss_nil)
    (pss_cons (ps_if (pt_cmpR op_eq (pv 0) pe_str (nomark _)) (pss_one (ps_ret (pe_callTy call_int1 rfl (fr_int T) (by decide +kernel) (pa_cons (pe_and (pe_cmpR op_ne (pv 1) pe_int (nomark _)) (pe_one (pe_cmpR op_ne (pv 2) pe_int (nomark _)))) pa_nil)))) pss_nil)
    (pss_one (ps_ret (pe_callTy call_int1 rfl (fr_int T) (by decide +kernel) (pa_cons (pe_or (pe_cmpR op_ne (pv 1) pe_int (nomark _)) (pe_one (pe_cmpR op_ne (pv 2) pe_int (nomark _)))) pa_nil)))))))))))), ?_⟩
  cases w with
  | cell => exact absurd rfl hw
  | add =>
    refine ⟨_, rfl, rfl, _, rfl, hit (fun _ => ?_) (fun c => absurd c (by decide +kernel))⟩
    exact ⟨_, rfl, _, rfl, _, _, rfl, rfl, _, rfl, k⟩
  | sub =>
    refine ⟨_, rfl, rfl, _, rfl, hit (fun c => absurd c (by decide +kernel)) (fun _ => ?_)⟩
    refine ⟨_, rfl, rfl, _, rfl, hit (fun _ => ?_) (fun c => absurd c (by decide +kernel))⟩
    exact ⟨_, rfl, _, rfl, _, _, rfl, rfl, _, rfl, k⟩
  | mul =>
    refine ⟨_, rfl, rfl, _, rfl, hit (fun c => absurd c (by decide +kernel)) (fun _ => ?_)⟩
    refine ⟨_, rfl, rfl, _, rfl, hit (fun c => absurd c (by decide +kernel)) (fun _ => ?_)⟩
    refine ⟨_, rfl, rfl, _, rfl, hit (fun _ => ?_) (fun c => absurd c (by decide +kernel))⟩
    exact ⟨_, rfl, _, rfl, _, _, rfl, rfl, .inl ⟨by have := ha.1; omega, by have := ha.2; omega⟩, _, rfl, k⟩
  | div =>
    refine ⟨_, rfl, rfl, _, rfl, hit (fun c => absurd c (by decide +kernel)) (fun _ => ?_)⟩
    refine ⟨_, rfl, rfl, _, rfl, hit (fun c => absurd c (by decide +kernel)) (fun _ => ?_)⟩
    refine ⟨_, rfl, rfl, _, rfl, hit (fun c => absurd c (by decide +kernel)) (fun _ => ?_)⟩
    refine ⟨_, rfl, rfl, _, rfl, hit (fun _ => ?_) (fun c => absurd c (by decide +kernel))⟩
    refine ⟨_, rfl, _, rfl, a, b, rfl, hb, _, rfl, ?_⟩
    rw [show wrapF (if b = 0 then 0 else a.fdiv b) = twoF c .div a b by by_cases z : b = 0 <;> simp [twoF, z, wrapF]]
    exact k
  | rest =>
    refine ⟨_, rfl, rfl, _, rfl, hit (fun c => absurd c (by decide +kernel)) (fun _ => ?_)⟩
    refine ⟨_, rfl, rfl, _, rfl, hit (fun c => absurd c (by decide +kernel)) (fun _ => ?_)⟩
    refine ⟨_, rfl, rfl, _, rfl, hit (fun c => absurd c (by decide +kernel)) (fun _ => ?_)⟩
    refine ⟨_, rfl, rfl, _, rfl, hit (fun c => absurd c (by decide +kernel)) (fun _ => ?_)⟩
    refine ⟨_, rfl, rfl, _, rfl, hit (fun _ => ?_) (fun c => absurd c (by decide +kernel))⟩
    refine ⟨_, rfl, _, rfl, a, b, rfl, _, rfl, ?_⟩
    rw [show wrapF (if b = 0 then 0 else a.fmod b) = twoF c .rest a b by by_cases z : b = 0 <;> simp [twoF, z, wrapF]]
    exact k
  | less =>
    refine ⟨_, rfl, rfl, _, rfl, hit (fun c => absurd c (by decide +kernel)) (fun _ => ?_)⟩
    refine ⟨_, rfl, rfl, _, rfl, hit (fun c => absurd c (by decide +kernel)) (fun _ => ?_)⟩
    refine ⟨_, rfl, rfl, _, rfl, hit (fun c => absurd c (by decide +kernel)) (fun _ => ?_)⟩
    refine ⟨_, rfl, rfl, _, rfl, hit (fun c => absurd c (by decide +kernel)) (fun _ => ?_)⟩
    refine ⟨_, rfl, rfl, _, rfl, hit (fun c => absurd c (by decide +kernel)) (fun _ => ?_)⟩
    refine ⟨_, rfl, rfl, _, rfl, hit (fun _ => ?_) (fun c => absurd c (by decide +kernel))⟩
    refine ⟨_, rfl, _, rfl, _, _, rfl, rfl, .inr ⟨_, rfl, ?_⟩⟩
    rw [show twoF c .less a b = (if decide (a < b) = true then 1 else 0) by simp [twoF]] at k
    exact k
  | same =>
    refine ⟨_, rfl, rfl, _, rfl, hit (fun c => absurd c (by decide +kernel)) (fun _ => ?_)⟩
    refine ⟨_, rfl, rfl, _, rfl, hit (fun c => absurd c (by decide +kernel)) (fun _ => ?_)⟩
    refine ⟨_, rfl, rfl, _, rfl, hit (fun c => absurd c (by decide +kernel)) (fun _ => ?_)⟩
    refine ⟨_, rfl, rfl, _, rfl, hit (fun c => absurd c (by decide +kernel)) (fun _ => ?_)⟩
    refine ⟨_, rfl, rfl, _, rfl, hit (fun c => absurd c (by decide +kernel)) (fun _ => ?_)⟩
    refine ⟨_, rfl, rfl, _, rfl, hit (fun c => absurd c (by decide +kernel)) (fun _ => ?_)⟩
    refine ⟨_, rfl, rfl, _, rfl, hit (fun _ => ?_) (fun c => absurd c (by decide +kernel))⟩
    refine ⟨_, rfl, _, rfl, rfl, .inr ⟨_, rfl, ?_⟩⟩
    rw [show twoF c .same a b = (if decide (V.int a = V.int b) = true then 1 else 0) by simp [twoF]] at k
    exact k
  | «and» =>
    refine ⟨_, rfl, rfl, _, rfl, hit (fun c => absurd c (by decide +kernel)) (fun _ => ?_)⟩
    refine ⟨_, rfl, rfl, _, rfl, hit (fun c => absurd c (by decide +kernel)) (fun _ => ?_)⟩
    refine ⟨_, rfl, rfl, _, rfl, hit (fun c => absurd c (by decide +kernel)) (fun _ => ?_)⟩
    refine ⟨_, rfl, rfl, _, rfl, hit (fun c => absurd c (by decide +kernel)) (fun _ => ?_)⟩
    refine ⟨_, rfl, rfl, _, rfl, hit (fun c => absurd c (by decide +kernel)) (fun _ => ?_)⟩
    refine ⟨_, rfl, rfl, _, rfl, hit (fun c => absurd c (by decide +kernel)) (fun _ => ?_)⟩
    refine ⟨_, rfl, rfl, _, rfl, hit (fun c => absurd c (by decide +kernel)) (fun _ => ?_)⟩
    refine ⟨_, rfl, rfl, _, rfl, hit (fun _ => ?_) (fun c => absurd c (by decide +kernel))⟩
    refine ⟨_, rfl, rfl, _, rfl, hit (fun z => ⟨_, rfl, rfl, .inr ⟨_, rfl, ?_⟩⟩) (fun z => .inr ⟨_, rfl, ?_⟩)⟩
    · have z' : a ≠ 0 := by simpa using z
      rw [show twoF c .and a b = (if (!decide (V.int b = V.int 0)) = true then 1 else 0) by simp [twoF, z']] at k
      exact k
    · have z' : a = 0 := by simpa using z
      rw [show twoF c .and a b = (if false = true then 1 else 0) by simp [twoF, z']] at k
      exact k
  | «or» =>
    refine ⟨_, rfl, rfl, _, rfl, hit (fun c => absurd c (by decide +kernel)) (fun _ => ?_)⟩
    refine ⟨_, rfl, rfl, _, rfl, hit (fun c => absurd c (by decide +kernel)) (fun _ => ?_)⟩
    refine ⟨_, rfl, rfl, _, rfl, hit (fun c => absurd c (by decide +kernel)) (fun _ => ?_)⟩
    refine ⟨_, rfl, rfl, _, rfl, hit (fun c => absurd c (by decide +kernel)) (fun _ => ?_)⟩
    refine ⟨_, rfl, rfl, _, rfl, hit (fun c => absurd c (by decide +kernel)) (fun _ => ?_)⟩
    refine ⟨_, rfl, rfl, _, rfl, hit (fun c => absurd c (by decide +kernel)) (fun _ => ?_)⟩
    refine ⟨_, rfl, rfl, _, rfl, hit (fun c => absurd c (by decide +kernel)) (fun _ => ?_)⟩
    refine ⟨_, rfl, rfl, _, rfl, hit (fun c => absurd c (by decide +kernel)) (fun _ => ?_)⟩
    refine ⟨_, rfl, rfl, _, rfl, hit (fun z => .inr ⟨_, rfl, ?_⟩) (fun z => ⟨_, rfl, rfl, .inr ⟨_, rfl, ?_⟩⟩)⟩
    · have z' : a ≠ 0 := by simpa using z
      rw [show twoF c .or a b = (if true = true then 1 else 0) by simp [twoF, z']] at k
      exact k
    · have z' : a = 0 := by simpa using z
      rw [show twoF c .or a b = (if (!decide (V.int b = V.int 0)) = true then 1 else 0) by simp [twoF, z']] at k
      exact k
end
end G
set_option Elab.async false
set_option linter.all false
set_option maxRecDepth 100000
set_option maxHeartbeats 4000000
/-! ### the program's state, as it stands in the heap -/
namespace G
open PySem PySem.Spec PyProof.Rows L2
structure PA where
  x : Addr
  dx : Addr
  sh : Addr
  bo : Addr
  sa : Addr
  as : Addr
  g : Addr
  gr : Addr
  it : Addr
  gd : Addr
  kt : Addr
  bt : Addr
def PA.all (A : PA) : List Addr := [A.x, A.sh, A.bo, A.sa, A.as, A.g, A.gr]
abbrev Mp (A : PA) : Addr → Prop := fun a => a = A.x ∨ a = A.sh ∨ a = A.bo ∨ a = A.sa ∨ a = A.as
def efF (c : Cfg) (A : PA) (lv : Addr) (seed fuel : Int) : List (Str × V) :=
  [("game", .ref A.g), ("tick", .int c.tick), ("seed", .int seed), ("shared", .ref A.sh), ("bodies", .ref A.bo), ("said", .ref A.sa), ("asked", .ref A.as), ("leaving", .ref lv), ("number", .int c.num),
   ("other", .int c.other), ("side", .int c.side), ("told_inputs", .ref A.it), ("at", .int (c.ix : Nat)), ("fuel", .int fuel)]
structure PD (H : Hp) (A : PA) (c : Cfg) (s : S) : Prop where
  x : ∃ lv, H A.x = some (.ins cEffects A.dx (efF c A lv s.seed (s.fuel : Nat))) ∧ H lv = some (.tup ((lvS c s).map V.int))
  sh : H A.sh = some (.lst (s.sh.map V.int))
  bo : ∃ vs, H A.bo = some (.lst vs) ∧ All2 (BoAt H) vs s.bs
  sa : H A.sa = some (.lst (s.said.map V.int))
  as : ∃ vs, H A.as = some (.lst vs) ∧ All2 (AsAt H) vs s.asked
  it : H A.it = some (.tup (c.inp.map V.int))
  g : H A.g = some (.ins cGame A.gd (gaF c.pl A.gr A.kt A.bt))
  kt : ∃ vs, H A.kt = some (.tup vs) ∧ (vs.length : Int) = c.nk
  gr : GdAt H A.gr c.rows c.wd
  nd : A.all.Nodup
section
variable {H H' : Hp} {A : PA} {c : Cfg} {s : S}
theorem PD.nds (h : PD H A c s) : (A.x ≠ A.sh ∧ A.x ≠ A.bo ∧ A.x ≠ A.sa ∧ A.x ≠ A.as ∧ A.x ≠ A.g ∧ A.x ≠ A.gr) ∧ (A.sh ≠ A.bo ∧ A.sh ≠ A.sa ∧ A.sh ≠ A.as ∧ A.sh ≠ A.g ∧ A.sh ≠ A.gr) ∧ (A.bo ≠ A.sa ∧ A.bo ≠ A.as ∧ A.bo ≠ A.g ∧ A.bo ≠ A.gr) ∧
    (A.sa ≠ A.as ∧ A.sa ≠ A.g ∧ A.sa ≠ A.gr) ∧ (A.as ≠ A.g ∧ A.as ≠ A.gr) ∧ A.g ≠ A.gr := by
  have nd := h.nd
  simp only [PA.all, List.nodup_cons, List.mem_cons, not_or, List.not_mem_nil, not_false_eq_true, and_true, List.nodup_nil] at nd
  exact nd
theorem GdAt.kp {M : Addr → Prop} (k : Kp M H H') {a : Addr} {rows : List (List Nat)} {wd : Nat} (n : ¬ M a) (h : GdAt H a rows wd) : GdAt H' a rows wd := by
  obtain ⟨dx, t, h1, h2⟩ := h
  exact ⟨dx, t, k.keep _ _ h1 n, k.tup _ _ h2⟩
theorem PD.kp {M : Addr → Prop} (h : PD H A c s) (k : Kp M H H') (n : ∀ a ∈ A.all, ¬ M a) : PD H' A c s := by
  obtain ⟨lv, x1, x2⟩ := h.x
  obtain ⟨bv, b1, b2⟩ := h.bo
  obtain ⟨av, a1, a2⟩ := h.as
  obtain ⟨kv, k1, k2⟩ := h.kt
  have m : ∀ i (q : i < A.all.length), ¬ M (A.all[i]) := fun i q => n _ (List.getElem_mem q)
  exact ⟨⟨lv, k.keep _ _ x1 (n _ (by simp [PA.all])), k.tup _ _ x2⟩, k.keep _ _ h.sh (n _ (by simp [PA.all])), ⟨bv, k.keep _ _ b1 (n _ (by simp [PA.all])), b2.mono fun _ _ q => q.kp k⟩, k.keep _ _ h.sa (n _ (by simp [PA.all])), ⟨av, k.keep _ _ a1 (n _ (by simp [PA.all])), a2.mono fun _ _ q => q.kp k⟩, k.tup _ _ h.it, k.keep _ _ h.g (n _ (by simp [PA.all])), ⟨kv, k.tup _ _ k1, k2⟩, h.gr.kp k (n _ (by simp [PA.all])), h.nd⟩
theorem PD.kp0 (h : PD H A c s) (k : Kp M0 H H') : PD H' A c s := h.kp k fun _ _ z => z
/-- a new state of the instance itself -/
theorem PD.setX (h : PD H A c s) (s' : S) {lv : Addr} (e2 : s'.sh = s.sh) (e3 : s'.bs = s.bs) (e4 : s'.said = s.said) (e5 : s'.asked = s.asked) (hl : H lv = some (.tup ((lvS c s').map V.int))) :
    PD (upd H A.x (.ins cEffects A.dx (efF c A lv s'.seed (s'.fuel : Nat)))) A c s' ∧ Kp (Mp A) H (upd H A.x (.ins cEffects A.dx (efF c A lv s'.seed (s'.fuel : Nat)))) := by
  obtain ⟨⟨n1, n2, n3, n4, n5, n6⟩, _⟩ := h.nds
  obtain ⟨lv0, x1, x2⟩ := h.x
  obtain ⟨bv, b1, b2⟩ := h.bo
  obtain ⟨av, a1, a2⟩ := h.as
  obtain ⟨kv, k1, k2⟩ := h.kt
  have k : Kp (fun a => a = A.x) H (upd H A.x (.ins cEffects A.dx (efF c A lv s'.seed (s'.fuel : Nat)))) := Kp.rfl.set rfl (not_tup x1 trivial)
  refine ⟨⟨⟨lv, upd_same, k.tup _ _ hl⟩, ?_, ⟨bv, k.keep _ _ b1 n2.symm, ?_⟩, ?_, ⟨av, k.keep _ _ a1 n4.symm, ?_⟩, k.tup _ _ h.it, k.keep _ _ h.g n5.symm, ⟨kv, k.tup _ _ k1, k2⟩, h.gr.kp k n6.symm, h.nd⟩, k.weak fun a z => .inl z⟩
  · rw [e2]; exact k.keep _ _ h.sh n1.symm
  · rw [e3]; exact b2.mono fun _ _ q => q.kp k
  · rw [e4]; exact k.keep _ _ h.sa n3.symm
  · rw [e5]; exact a2.mono fun _ _ q => q.kp k
theorem PD.setSh (h : PD H A c s) (l : List Int) : PD (upd H A.sh (.lst (l.map V.int))) A c { s with sh := l } ∧ Kp (Mp A) H (upd H A.sh (.lst (l.map V.int))) := by
  obtain ⟨⟨n1, n2, n3, n4, n5, n6⟩, ⟨p1, p2, p3, p4, p5⟩, _⟩ := h.nds
  obtain ⟨lv, x1, x2⟩ := h.x
  obtain ⟨bv, b1, b2⟩ := h.bo
  obtain ⟨av, a1, a2⟩ := h.as
  obtain ⟨kv, k1, k2⟩ := h.kt
  have k : Kp (fun a => a = A.sh) H (upd H A.sh (.lst (l.map V.int))) := Kp.rfl.set rfl (not_tup h.sh trivial)
  exact ⟨⟨⟨lv, k.keep _ _ x1 n1, k.tup _ _ x2⟩, upd_same, ⟨bv, k.keep _ _ b1 p1.symm, b2.mono fun _ _ q => q.kp k⟩, k.keep _ _ h.sa p2.symm, ⟨av, k.keep _ _ a1 p3.symm, a2.mono fun _ _ q => q.kp k⟩, k.tup _ _ h.it, k.keep _ _ h.g p4.symm, ⟨kv, k.tup _ _ k1, k2⟩, h.gr.kp k p5.symm, h.nd⟩, k.weak fun a z => .inr (.inl z)⟩
theorem PD.setBo (h : PD H A c s) {vs : List V} {bs : List Bod} (hb : All2 (BoAt H) vs bs) : PD (upd H A.bo (.lst vs)) A c { s with bs := bs } ∧ Kp (Mp A) H (upd H A.bo (.lst vs)) := by
  obtain ⟨⟨n1, n2, n3, n4, n5, n6⟩, ⟨p1, p2, p3, p4, p5⟩, ⟨q1, q2, q3, q4⟩, _⟩ := h.nds
  obtain ⟨lv, x1, x2⟩ := h.x
  obtain ⟨bv, b1, b2⟩ := h.bo
  obtain ⟨av, a1, a2⟩ := h.as
  obtain ⟨kv, k1, k2⟩ := h.kt
  have k : Kp (fun a => a = A.bo) H (upd H A.bo (.lst vs)) := Kp.rfl.set rfl (not_tup b1 trivial)
  exact ⟨⟨⟨lv, k.keep _ _ x1 n2, k.tup _ _ x2⟩, k.keep _ _ h.sh p1, ⟨vs, upd_same, hb.mono fun _ _ q => q.kp k⟩, k.keep _ _ h.sa q1.symm, ⟨av, k.keep _ _ a1 q2.symm, a2.mono fun _ _ q => q.kp k⟩, k.tup _ _ h.it, k.keep _ _ h.g q3.symm, ⟨kv, k.tup _ _ k1, k2⟩, h.gr.kp k q4.symm, h.nd⟩, k.weak fun a z => .inr (.inr (.inl z))⟩
theorem PD.setSa (h : PD H A c s) (l : List Int) : PD (upd H A.sa (.lst (l.map V.int))) A c { s with said := l } ∧ Kp (Mp A) H (upd H A.sa (.lst (l.map V.int))) := by
  obtain ⟨⟨n1, n2, n3, n4, n5, n6⟩, ⟨p1, p2, p3, p4, p5⟩, ⟨q1, q2, q3, q4⟩, ⟨r1, r2, r3⟩, _⟩ := h.nds
  obtain ⟨lv, x1, x2⟩ := h.x
  obtain ⟨bv, b1, b2⟩ := h.bo
  obtain ⟨av, a1, a2⟩ := h.as
  obtain ⟨kv, k1, k2⟩ := h.kt
  have k : Kp (fun a => a = A.sa) H (upd H A.sa (.lst (l.map V.int))) := Kp.rfl.set rfl (not_tup h.sa trivial)
  exact ⟨⟨⟨lv, k.keep _ _ x1 n3, k.tup _ _ x2⟩, k.keep _ _ h.sh p2, ⟨bv, k.keep _ _ b1 q1, b2.mono fun _ _ q => q.kp k⟩, upd_same, ⟨av, k.keep _ _ a1 r1.symm, a2.mono fun _ _ q => q.kp k⟩, k.tup _ _ h.it, k.keep _ _ h.g r2.symm, ⟨kv, k.tup _ _ k1, k2⟩, h.gr.kp k r3.symm, h.nd⟩, k.weak fun a z => .inr (.inr (.inr (.inl z)))⟩
theorem PD.setAs (h : PD H A c s) {vs : List V} {l : List (List Int)} (hv : All2 (AsAt H) vs l) : PD (upd H A.as (.lst vs)) A c { s with asked := l } ∧ Kp (Mp A) H (upd H A.as (.lst vs)) := by
  obtain ⟨⟨n1, n2, n3, n4, n5, n6⟩, ⟨p1, p2, p3, p4, p5⟩, ⟨q1, q2, q3, q4⟩, ⟨r1, r2, r3⟩, ⟨t1, t2⟩, _⟩ := h.nds
  obtain ⟨lv, x1, x2⟩ := h.x
  obtain ⟨bv, b1, b2⟩ := h.bo
  obtain ⟨av, a1, a2⟩ := h.as
  obtain ⟨kv, k1, k2⟩ := h.kt
  have k : Kp (fun a => a = A.as) H (upd H A.as (.lst vs)) := Kp.rfl.set rfl (not_tup a1 trivial)
  exact ⟨⟨⟨lv, k.keep _ _ x1 n4, k.tup _ _ x2⟩, k.keep _ _ h.sh p3, ⟨bv, k.keep _ _ b1 q2, b2.mono fun _ _ q => q.kp k⟩, k.keep _ _ h.sa r1, ⟨vs, upd_same, hv.mono fun _ _ q => q.kp k⟩, k.tup _ _ h.it, k.keep _ _ h.g t1.symm, ⟨kv, k.tup _ _ k1, k2⟩, h.gr.kp k t2.symm, h.nd⟩, k.weak fun a z => .inr (.inr (.inr (.inr z)))⟩
/-- the body that runs -/
theorem PD.me (h : PD H A c s) (w : WfS c s) : ∃ vs p cc, H A.bo = some (.lst vs) ∧ All2 (BoAt H) vs s.bs ∧ vs[c.ix]? = some (.ref p) ∧ H p = some (.tup (blV (bodF c s) cc)) ∧ H cc = some (.tup ((bodF c s).cells.map V.int)) := by
  obtain ⟨bv, b1, b2⟩ := h.bo
  obtain ⟨v, hv, t, cc, e, h1, h2⟩ := b2.get w.get
  subst e
  exact ⟨bv, t, cc, b1, b2, hv, h1, h2⟩
theorem PD.out {p : Addr} (h : PD H A c s) (n : H p = none) : ¬ Mp A p := fun m => by
  obtain ⟨lv, x1, _⟩ := h.x
  obtain ⟨bv, b1, _⟩ := h.bo
  obtain ⟨av, a1, _⟩ := h.as
  rcases m with z | z | z | z | z
  · rw [z, x1] at n; cases n
  · rw [z, h.sh] at n; cases n
  · rw [z, b1] at n; cases n
  · rw [z, h.sa] at n; cases n
  · rw [z, a1] at n; cases n
end
end G
set_option Elab.async false
set_option linter.all false
set_option maxRecDepth 100000
set_option maxHeartbeats 4000000
namespace G
open PySem PySem.Spec PyProof.Rows L2
theorem for_enumL {K : PySem.W.Frag} {a : Addr} {xs : List V} {g : TG} {tb : TS} {D : Ends} {σ : L2.St} {H : Hp} (Pv : Nat → L2.St → Hp → Prop) (h0 : Pv 0 σ H) (hl : ∀ i σ H, i ≤ xs.length → Pv i σ H → SqL K H a xs)
    (hs : ∀ i x σ H p, xs[i]? = some x → Pv i σ H → H p = none → g (.ref p) σ (upd H p (.tup [.int (i : Nat), x])) fun σ2 H2 => tb { D with nx := Pv (i + 1), ct := Pv (i + 1), bk := D.nx } σ2 H2) (hd : ∀ σ H, Pv xs.length σ H → D.nx σ H) :
    ∃ W : Nat → Nat → L2.St → Hp → Prop, (∃ m, W 0 m σ H) ∧ ∀ i m σ H, W i m σ H →
      ((Ite K a).stop i H ∧ D.nx σ H) ∨ ((Ite K a).go i H ∧ ∃ N : L2.St → Hp → Prop, (∀ σ' H', N σ' H' → ∃ m', m' < m ∧ W (i + 1) m' σ' H') ∧ ∀ x H', (Ite K a).yld i H x H' → g x σ H' fun σ2 H2 => tb { D with nx := N, ct := N, bk := D.nx } σ2 H2) :=
  for_it walk_enum Pv h0 hl (fun i x σ H H' hi p y => by
    obtain ⟨t, u, v, rfl, nt, rfl, eu, ev⟩ := y
    cases eu
    exact hs i v σ H t ev p nt) hd
def PlQ (bs : List Bod) (n : Int) (Q : VK) (H' : Hp) : Prop := (∀ i b, bs[i]? = some b → b.num = n → (∀ x ∈ bs.take i, x.num ≠ n) → Q (.int (i : Nat)) H') ∧ ((∀ x ∈ bs, x.num ≠ n) → Q .non H')
def spPlT : Sp := fun vs H Q _ => ∃ (a : Addr) (n : Int) (us : List V) (bs : List Bod), vs = [.ref a, .int n] ∧ H a = some (.tup us) ∧ All2 (BoAt H) us bs ∧ ∀ H', Kp M0 H H' → PlQ bs n Q H'
def spPlL : Sp := fun vs H Q _ => ∃ (a : Addr) (n : Int) (us : List V) (bs : List Bod), vs = [.ref a, .int n] ∧ H a = some (.lst us) ∧ All2 (BoAt H) us bs ∧ ∀ H', Kp M0 H H' → PlQ bs n Q H'
def spButP : Sp := fun vs H Q _ => ∃ (A : PA) (c : Cfg) (s : S), vs = [.ref A.x] ∧ PD H A c s ∧ WfS c s ∧ WfC c ∧ Q (.int (butF c s)) H
def spSpend : Sp := fun vs H Q _ => ∃ (A : PA) (c : Cfg) (s : S), vs = [.ref A.x] ∧ PD H A c s ∧ (s.fuel = 0 → Q (.bl false) H) ∧ (0 < s.fuel → ∀ H', Kp (Mp A) H H' → PD H' A c (pay s) → Q (.bl true) H')
def spSayP : Sp := fun vs H Q _ => ∃ (A : PA) (c : Cfg) (s : S) (v : Int), vs = [.ref A.x, .int v] ∧ PD H A c s ∧ WfS c s ∧ ∀ H', Kp (Mp A) H H' → PD H' A c (sayF s v) → Q .non H'
def BoOp (H : Hp) : Option Bod → V → Prop
  | none, v => v = .non
  | some b, v => BoAt H v b
def spBodyOf : Sp := fun vs H Q _ => ∃ (A : PA) (c : Cfg) (s : S) (n : Int), vs = [.ref A.x, .int n] ∧ PD H A c s ∧ ∀ v H', Kp M0 H H' → BoOp H' (s.bs.find? (fun b => decide (b.num = n))) v → Q v H'
def spMakeP : Sp := fun vs H Q _ => ∃ (A : PA) (c : Cfg) (s : S) (k x y v : Int), vs = [.ref A.x, .int k, .int x, .int y, .int v] ∧ PD H A c s ∧ WfS c s ∧ ∀ H', Kp (Mp A) H H' → PD H' A c (makeF c s k x y v) → Q .non H'
section
variable {P : Program} {w : World} {K : PySem.W.Frag} {mg : Str → Option Value} {base : Heap}
theorem scp_place_of : FnScope ["bodies", "number", "at", "body"] ["bodies", "number"] (defScope sp_place_of) := ⟨rfl, rfl, rfl, by decide +kernel, rfl, by decide +kernel, by decide +kernel⟩
theorem ok_p_place_ofT (T : Tx w K mg) : Cal P w K mg base "place_of" 1 ["bodies", "number"] spPlT := by
  obtain ⟨fd, F⟩ : ∃ fd, Fun K "place_of" "place_of" sp_place_of 427 fd := T.fn 25 _ rfl
  refine T.cal F 90 rfl (fun _ _ _ _ _ _ us hl => match us, hl with | [_, _], _ => rfl) ?_
  refine F.ok scp_place_of (fun vs H Q E h => ?_) (fun cdv A outer s H vs Q E hr h => ?_)
  · obtain ⟨a, n, us, bs, rfl, _⟩ := h
    rfl
  obtain ⟨a, n, us, bs, rfl, ea, hB, k⟩ := h
  refine ⟨_, (pss_cons (ps_for PassesOwn.never rfl (pi_enumT rfl (fr_enumerate T) (pa_cons (pv 0) pa_nil)) (pg_tup rfl (pgs_cons (pg_name (i := 2) scp_place_of.nd rfl (Or.inl rfl)) (pgs_cons (pg_name (i := 3) scp_place_of.nd rfl (Or.inl rfl)) pgs_nil)))
      (pss_one (ps_if (pt_cmpR op_eq (pe_ix ix_tup (pv 3) pe_int (fun _ _ => rfl)) (pv 1) (nomark _)) (pss_one (ps_ret (pv 2))) pss_nil)))
    (pss_one (ps_ret pe_non))), ?_⟩
  have hl := hB.len
  refine ⟨_, rfl, a, us, rfl, SqT.of ea, ?_⟩
  refine for_enumT (xs := us) (fun i σ' H' => ∃ k1 k2, σ' = [some (.ref a), some (.int n), k1, k2] ∧ Kp M0 H H' ∧ ∀ x ∈ bs.take i, x.num ≠ n) ⟨none, none, rfl, Kp.rfl, by simp⟩ (fun i σ' H' _ ⟨_, _, _, kp, _⟩ => SqT.of (kp.tup _ _ ea)) ?_ ?_
  · rintro i y σ' H2 p hi ⟨k1, k2, rfl, kp2, hn⟩ np
    obtain ⟨b, eb, tb, cb, rfl, etb, _⟩ := hB.getL hi
    have kpp : Kp M0 H2 (upd H2 p (.tup [.int (i : Nat), .ref tb])) := Kp.new np
    have k3 := kp2.trans kpp
    refine ⟨p, _, rfl, SqT.of upd_same, rfl, _, _, rfl, _, _, rfl, rfl, ?_⟩
    refine ⟨_, rfl, tb, _, 0, _, rfl, rfl, SqT.of (k3.tup _ _ etb), rfl, _, rfl, rfl, _, rfl, hit (fun z => ?_) (fun z => ?_)⟩
    · have z' : b.num = n := by
        have := of_decide_eq_true z
        simpa using this
      exact ⟨_, rfl, (k _ k3).1 i b eb z' hn⟩
    · have z' : b.num ≠ n := fun y => by
        rw [y] at z
        exact absurd z (by simp)
      refine ⟨_, _, rfl, k3, fun x hx => ?_⟩
      rw [List.take_add_one, eb] at hx
      rcases List.mem_append.mp hx with q | q
      · exact hn x q
      · rw [List.mem_singleton.mp q]; exact z'
  · rintro σ' H2 ⟨k1, k2, rfl, kp2, hn⟩
    rw [show us.length = bs.length from hl, List.take_length] at hn
    exact (k _ kp2).2 hn
theorem ok_p_place_ofL (T : Tx w K mg) : Cal P w K mg base "place_of" 1 ["bodies", "number"] spPlL := by
  obtain ⟨fd, F⟩ : ∃ fd, Fun K "place_of" "place_of" sp_place_of 427 fd := T.fn 25 _ rfl
  refine T.cal F 90 rfl (fun _ _ _ _ _ _ us hl => match us, hl with | [_, _], _ => rfl) ?_
  refine F.ok scp_place_of (fun vs H Q E h => ?_) (fun cdv A outer s H vs Q E hr h => ?_)
  · obtain ⟨a, n, us, bs, rfl, _⟩ := h
    rfl
  obtain ⟨a, n, us, bs, rfl, ea, hB, k⟩ := h
  refine ⟨_, (pss_cons (ps_for PassesOwn.never rfl (pi_enum rfl (fr_enumerate T) (pa_cons (pv 0) pa_nil)) (pg_tup rfl (pgs_cons (pg_name (i := 2) scp_place_of.nd rfl (Or.inl rfl)) (pgs_cons (pg_name (i := 3) scp_place_of.nd rfl (Or.inl rfl)) pgs_nil)))
      (pss_one (ps_if (pt_cmpR op_eq (pe_ix ix_tup (pv 3) pe_int (fun _ _ => rfl)) (pv 1) (nomark _)) (pss_one (ps_ret (pv 2))) pss_nil)))
    (pss_one (ps_ret pe_non))), ?_⟩
  have hl := hB.len
  refine ⟨_, rfl, a, us, rfl, SqL.of ea, ?_⟩
  refine for_enumL (xs := us) (fun i σ' H' => ∃ k1 k2, σ' = [some (.ref a), some (.int n), k1, k2] ∧ Kp M0 H H' ∧ ∀ x ∈ bs.take i, x.num ≠ n) ⟨none, none, rfl, Kp.rfl, by simp⟩ (fun i σ' H' _ ⟨_, _, _, kp, _⟩ => SqL.of (kp.keep _ _ ea id)) ?_ ?_
  · rintro i y σ' H2 p hi ⟨k1, k2, rfl, kp2, hn⟩ np
    obtain ⟨b, eb, tb, cb, rfl, etb, _⟩ := hB.getL hi
    have kpp : Kp M0 H2 (upd H2 p (.tup [.int (i : Nat), .ref tb])) := Kp.new np
    have k3 := kp2.trans kpp
    refine ⟨p, _, rfl, SqT.of upd_same, rfl, _, _, rfl, _, _, rfl, rfl, ?_⟩
    refine ⟨_, rfl, tb, _, 0, _, rfl, rfl, SqT.of (k3.tup _ _ etb), rfl, _, rfl, rfl, _, rfl, hit (fun z => ?_) (fun z => ?_)⟩
    · have z' : b.num = n := by
        have := of_decide_eq_true z
        simpa using this
      exact ⟨_, rfl, (k _ k3).1 i b eb z' hn⟩
    · have z' : b.num ≠ n := fun y => by
        rw [y] at z
        exact absurd z (by simp)
      refine ⟨_, _, rfl, k3, fun x hx => ?_⟩
      rw [List.take_add_one, eb] at hx
      rcases List.mem_append.mp hx with q | q
      · exact hn x q
      · rw [List.mem_singleton.mp q]; exact z'
  · rintro σ' H2 ⟨k1, k2, rfl, kp2, hn⟩
    rw [show us.length = bs.length from hl, List.take_length] at hn
    exact (k _ kp2).2 hn
theorem scm_Effects_buttons : FnScope ["self", "owner"] ["self"] (defScope sm_Effects_buttons) := ⟨rfl, rfl, rfl, by decide +kernel, rfl, by decide +kernel, by decide +kernel⟩
theorem ok_m_Effects_buttons (T : Tx w K mg) : CalM P w K mg base cEffects "buttons" 1 ["self"] spButP := by
  obtain ⟨fd, F⟩ : ∃ fd, Fun K "buttons" "Effects.buttons" sm_Effects_buttons 509 fd := T.fn 32 _ rfl
  refine T.calM F (T.me (cEffects, "buttons", 509) (by simp [meL])) (fun _ _ _ _ _ _ us hl => match us, hl with | [_], _ => rfl) ?_
  refine F.ok scm_Effects_buttons (fun vs H Q E h => ?_) (fun cdv A outer s H vs Q E hr h => ?_)
  · obtain ⟨A, c, s, rfl, _⟩ := h
    rfl
  obtain ⟨A, c, s, rfl, hD, hw, hc, k⟩ := h
  refine ⟨_, (pss_cons (ps_set (i := 1) scm_Effects_buttons.nd rfl (Or.inl rfl) (pe_ix ix_tup (pe_ix ix_list (pe_fld (pv 0) rfl) (pe_fld (pv 0) rfl) (fun _ _ => rfl)) pe_int (fun _ _ => rfl)))
    (pss_one (ps_ret (pe_ifExp (pt_cmpR op_lt (pv 1) pe_int (nomark _)) pe_int (pe_ix ix_tup (pe_fld (pv 0) rfl) (pv 1) (fun _ _ => rfl)))))), ?_⟩
  obtain ⟨lv, ex, elv⟩ := hD.x
  obtain ⟨bv, p, cc, b1, b2, hv, e1, e2⟩ := hD.me hw
  refine ⟨_, rfl, A.x, cEffects, A.dx, _, _, rfl, ex, T.cl _ mem_cEffects, T.no (cEffects, "bodies") (by simp [noL]), rfl, _, rfl, A.x, cEffects, A.dx, _, _, rfl, ex, T.cl _ mem_cEffects, T.no (cEffects, "at") (by simp [noL]), rfl, A.bo, _, _, _, rfl, rfl, SqL.of b1, atI_of rfl hv, p, _, 6, _, rfl, rfl, SqT.of e1, rfl, ?_⟩
  have q := hw.bod
  have h0 := q.o0
  refine ⟨_, rfl, _, _, rfl, rfl, _, rfl, hit (fun z => ?_) (fun z => ?_)⟩
  · have z' : (bodF c s).owner < 0 := of_decide_eq_true z
    unfold butF at k
    rw [if_pos z'] at k
    exact k
  · have z' : ¬ (bodF c s).owner < 0 := of_decide_eq_false z
    exact ⟨_, rfl, A.x, cEffects, A.dx, _, _, rfl, ex, T.cl _ mem_cEffects, T.no (cEffects, "told_inputs") (by simp [noL]), rfl, _, rfl, A.it, _, _, _, rfl, rfl, SqT.of hD.it, atI_of (j := (bodF c s).owner.toNat) (by omega) (by rw [List.getElem?_map, butF_in hw hc z']; rfl), k⟩
theorem scm_Effects_spend : FnScope ["self"] ["self"] (defScope sm_Effects_spend) := ⟨rfl, rfl, rfl, by decide +kernel, rfl, by decide +kernel, by decide +kernel⟩
theorem ok_m_Effects_spend (T : Tx w K mg) : CalM P w K mg base cEffects "spend" 1 ["self"] spSpend := by
  obtain ⟨fd, F⟩ : ∃ fd, Fun K "spend" "Effects.spend" sm_Effects_spend 502 fd := T.fn 31 _ rfl
  refine T.calM F (T.me (cEffects, "spend", 502) (by simp [meL])) (fun _ _ _ _ _ _ us hl => match us, hl with | [_], _ => rfl) ?_
  refine F.ok scm_Effects_spend (fun vs H Q E h => ?_) (fun cdv A outer s H vs Q E hr h => ?_)
  · obtain ⟨A, c, s, rfl, _⟩ := h
    rfl
  obtain ⟨A, c, s, rfl, hD, k0, k1⟩ := h
  refine ⟨_, (pss_cons (ps_if (pt_cmpR op_eq (pe_fld (pv 0) rfl) pe_int (nomark _)) (pss_one (ps_ret pe_bl)) pss_nil)
    (pss_cons (ps_fldaug (pv 0) pe_int in_sub)
    (pss_one (ps_ret pe_bl)))), ?_⟩
  obtain ⟨lv, ex, elv⟩ := hD.x
  refine ⟨_, rfl, A.x, cEffects, A.dx, _, _, rfl, ex, T.cl _ mem_cEffects, T.no (cEffects, "fuel") (by simp [noL]), rfl, rfl, _, rfl, hit (fun z => ?_) (fun z => ?_)⟩
  · have z' : (s.fuel : Int) = 0 := by
      have := of_decide_eq_true z
      simpa using this
    exact k0 (by omega)
  · have z' : ¬ (s.fuel : Int) = 0 := fun y => by
      rw [y] at z
      exact absurd z (by decide)
    have hp : 0 < s.fuel := by omega
    refine ⟨_, rfl, A.x, cEffects, A.dx, _, _, rfl, ex, T.cl _ mem_cEffects, T.no (cEffects, "fuel") (by simp [noL]), rfl, _, _, rfl, rfl, A.dx, _, ex, (by show 14 < 1000; decide), ?_⟩
    obtain ⟨h1, h2⟩ := hD.setX (pay s) rfl rfl rfl rfl (lv := lv) elv
    have e : (((pay s).fuel : Nat) : Int) = (s.fuel : Int) - 1 := by
      show ((s.fuel - 1 : Nat) : Int) = _
      omega
    rw [e] at h1 h2
    exact k1 hp _ h2 h1
theorem scm_Effects_say : FnScope ["self", "value"] ["self", "value"] (defScope sm_Effects_say) := ⟨rfl, rfl, rfl, by decide +kernel, rfl, by decide +kernel, by decide +kernel⟩
theorem ok_m_Effects_say (T : Tx w K mg) : CalM P w K mg base cEffects "say" 1 ["self", "value"] spSayP := by
  obtain ⟨fd, F⟩ : ∃ fd, Fun K "say" "Effects.say" sm_Effects_say 565 fd := T.fn 40 _ rfl
  refine T.calM F (T.me (cEffects, "say", 565) (by simp [meL])) (fun _ _ _ _ _ _ us hl => match us, hl with | [_, _], _ => rfl) ?_
  refine F.ok scm_Effects_say (fun vs H Q E h => ?_) (fun cdv A outer s H vs Q E hr h => ?_)
  · obtain ⟨A, c, s, v, rfl, _⟩ := h
    rfl
  obtain ⟨A, c, s, v, rfl, hD, hw, k⟩ := h
  unfold sayF at k
  refine ⟨_, (pss_one (ps_if (pt_cmpR op_lt (pe_callB call_len_seq rfl (fr_len T) (by decide +kernel) (pa_cons (pe_fld (pv 0) rfl) pa_nil)) (gc T 87 (.int (64)) rfl) (nomark _)) (pss_one (ps_expr (pe_bm PySem.F.plainAttrs_list PySem.F.slot_list_append PySem.F.type_list_append mt_append (pe_fld (pv 0) rfl) (pa_cons (pv 1) pa_nil)))) pss_nil)), ?_⟩
  obtain ⟨lv, ex, elv⟩ := hD.x
  refine ⟨_, rfl, A.x, cEffects, A.dx, _, _, rfl, ex, T.cl _ mem_cEffects, T.no (cEffects, "said") (by simp [noL]), rfl, A.sa, _, rfl, .inl (SqL.of hD.sa), _, _, rfl, rfl, _, rfl, ?_⟩
  have hl := hw.sa
  rw [List.length_map]
  refine hit (fun z => ?_) (fun z => ?_)
  · have z' : (s.said.length : Int) < 64 := of_decide_eq_true z
    rw [if_pos (by omega)] at k
    obtain ⟨h1, h2⟩ := hD.setSa (s.said ++ [v])
    refine ⟨_, rfl, A.x, cEffects, A.dx, _, _, rfl, ex, T.cl _ mem_cEffects, T.no (cEffects, "said") (by simp [noL]), rfl, .inl ⟨rfl, _, SqL.of hD.sa⟩, _, rfl, A.sa, _, .int v, rfl, rfl, hD.sa, Nat.lt_of_le_of_lt (show _ ≤ 100 by rw [List.length_map]; omega) (by decide), ?_⟩
    rw [show s.said.map V.int ++ [.int v] = (s.said ++ [v]).map V.int by rw [List.map_append]; rfl]
    exact k _ h2 h1
  · have z' : ¬ (s.said.length : Int) < 64 := of_decide_eq_false z
    rw [if_neg (by omega)] at k
    exact k _ Kp.rfl hD
theorem scm_Effects_body_of : FnScope ["self", "number", "at"] ["self", "number"] (defScope sm_Effects_body_of) := ⟨rfl, rfl, rfl, by decide +kernel, rfl, by decide +kernel, by decide +kernel⟩
theorem ok_m_Effects_body_of (T : Tx w K mg) : CalM P w K mg base cEffects "body_of" 2 ["self", "number"] spBodyOf := by
  obtain ⟨fd, F⟩ : ∃ fd, Fun K "body_of" "Effects.body_of" sm_Effects_body_of 537 fd := T.fn 36 _ rfl
  refine T.calM F (T.me (cEffects, "body_of", 537) (by simp [meL])) (fun _ _ _ _ _ _ us hl => match us, hl with | [_, _], _ => rfl) ?_
  refine F.ok scm_Effects_body_of (fun vs H Q E h => ?_) (fun cdv A outer s H vs Q E hr h => ?_)
  · obtain ⟨A, c, s, n, rfl, _⟩ := h
    rfl
  obtain ⟨A, c, s, n, rfl, hD, k⟩ := h
  refine ⟨_, (pss_cons (ps_set (i := 2) scm_Effects_body_of.nd rfl (Or.inl rfl) (pe_k (ok_p_place_ofL T) (hr.mono (by decide)) (pa_cons (pe_fld (pv 0) rfl) (pa_cons (pv 1) pa_nil))))
    (pss_one (ps_ret (pe_ifExp (pt_cmpR op_isN (pv 2) pe_non (nomark _)) pe_non (pe_ix ix_list (pe_fld (pv 0) rfl) (pv 2) (fun _ _ => rfl)))))), ?_⟩
  obtain ⟨lv, ex, elv⟩ := hD.x
  obtain ⟨bv, b1, b2⟩ := hD.bo
  refine ⟨_, rfl, A.x, cEffects, A.dx, _, _, rfl, ex, T.cl _ mem_cEffects, T.no (cEffects, "bodies") (by simp [noL]), rfl, _, rfl, A.bo, n, bv, s.bs, rfl, b1, b2, fun H' kp => ⟨fun i b eb hb hn => ?_, fun hn => ?_⟩⟩
  · obtain ⟨v, ev, hv⟩ := b2.get eb
    have ex1 := kp.keep _ _ ex id
    refine ⟨_, rfl, rfl, _, rfl, hit (fun c => nomatch of_decide_eq_true c) (fun _ => ?_)⟩
    refine ⟨_, rfl, A.x, cEffects, A.dx, _, _, rfl, ex1, T.cl _ mem_cEffects, T.no (cEffects, "bodies") (by simp [noL]), rfl, _, rfl, A.bo, _, _, _, rfl, rfl, SqL.of (kp.keep _ _ b1 id), atI_of rfl ev, k _ _ kp ?_⟩
    rw [find_at eb hb hn]
    exact hv.kp kp
  · refine ⟨_, rfl, rfl, _, rfl, iteT (k _ _ kp ?_)⟩
    rw [find_no hn]
    rfl
theorem scm_Effects_make : FnScope ["self", "kind", "x", "y", "value"] ["self", "kind", "x", "y", "value"] (defScope sm_Effects_make) := ⟨rfl, rfl, rfl, by decide +kernel, rfl, by decide +kernel, by decide +kernel⟩
theorem ok_m_Effects_make (T : Tx w K mg) : CalM P w K mg base cEffects "make" 1 ["self", "kind", "x", "y", "value"] spMakeP := by
  obtain ⟨fd, F⟩ : ∃ fd, Fun K "make" "Effects.make" sm_Effects_make 544 fd := T.fn 37 _ rfl
  refine T.calM F (T.me (cEffects, "make", 544) (by simp [meL])) (fun _ _ _ _ _ _ us hl => match us, hl with | [_, _, _, _, _], _ => rfl) ?_
  refine F.ok scm_Effects_make (fun vs H Q E h => ?_) (fun cdv A outer s H vs Q E hr h => ?_)
  · obtain ⟨A, c, s, kk, x, y, v, rfl, _⟩ := h
    rfl
  obtain ⟨A, c, s, kk, x, y, v, rfl, hD, hw, k⟩ := h
  refine ⟨_, (pss_one (ps_if (PW.pt (pw_and (pt_cmpR op_lt (pe_callB call_len_seq rfl (fr_len T) (by decide +kernel) (pa_cons (pe_fld (pv 0) rfl) pa_nil)) (gc T 92 (.int (32)) rfl) (nomark _)) (pw_and1 (pt_cmpR op_lt (pv 1) (pe_callB call_len_seq rfl (fr_len T) (by decide +kernel) (pa_cons (pe_fld (pe_fld (pv 0) rfl) rfl) pa_nil)) (nomark _))))) (pss_one (ps_expr (pe_bm PySem.F.plainAttrs_list PySem.F.slot_list_append PySem.F.type_list_append mt_append (pe_fld (pv 0) rfl) (pa_cons (pe_tup (pa_cons (pv 1) (pa_cons (pv 2) (pa_cons (pv 3) (pa_cons (pe_ix ix_tup (pe_ix ix_list (pe_fld (pv 0) rfl) (pe_fld (pv 0) rfl) (fun _ _ => rfl)) pe_int (fun _ _ => rfl)) (pa_cons (pv 4) pa_nil)))))) pa_nil)))) pss_nil)), ?_⟩
  obtain ⟨lv, ex, elv⟩ := hD.x
  obtain ⟨bv, p, cc, b1, b2, hv, e1, e2⟩ := hD.me hw
  obtain ⟨avs, eas, hA⟩ := hD.as
  obtain ⟨kv, ekt, hkl⟩ := hD.kt
  have hl := hA.len
  have h32 := hw.as
  unfold makeF at k
  refine ⟨_, rfl, A.x, cEffects, A.dx, _, _, rfl, ex, T.cl _ mem_cEffects, T.no (cEffects, "asked") (by simp [noL]), rfl, A.as, _, rfl, .inl (SqL.of eas), _, _, rfl, rfl, _, rfl, hit (fun z => ?_) (fun z => ?_)⟩
  · have z' : (avs.length : Int) < 32 := of_decide_eq_true z
    refine ⟨_, rfl, _, rfl, A.x, cEffects, A.dx, _, _, rfl, ex, T.cl _ mem_cEffects, T.no (cEffects, "game") (by simp [noL]), rfl, A.g, cGame, _, _, _, rfl, hD.g, T.cl _ mem_cGame, T.no (cGame, "kinds") (by simp [noL]), rfl, A.kt, kv, rfl, .inr (SqT.of ekt), _, _, rfl, rfl, _, rfl, hit (fun z2 => ?_) (fun z2 => ?_)⟩
    · have z2' : kk < (kv.length : Int) := of_decide_eq_true z2
      rw [if_pos ⟨by omega, by omega⟩] at k
      refine ⟨_, rfl, A.x, cEffects, A.dx, _, _, rfl, ex, T.cl _ mem_cEffects, T.no (cEffects, "asked") (by simp [noL]), rfl, .inl ⟨rfl, _, SqL.of eas⟩, _, rfl, _, rfl, _, rfl, _, rfl, A.x, cEffects, A.dx, _, _, rfl, ex, T.cl _ mem_cEffects, T.no (cEffects, "bodies") (by simp [noL]), rfl, _, rfl, A.x, cEffects, A.dx, _, _, rfl, ex, T.cl _ mem_cEffects, T.no (cEffects, "at") (by simp [noL]), rfl, A.bo, _, _, _, rfl, rfl, SqL.of b1, atI_of rfl hv, p, _, 6, _, rfl, rfl, SqT.of e1, rfl, _, rfl, (by show 5 ≤ sizeLine; decide), fun q nq => ?_⟩
      have kn : Kp M0 H (upd H q (.tup [.int kk, .int x, .int y, .int (bodF c s).owner, .int v])) := Kp.new nq
      have hD1 := hD.kp0 kn
      obtain ⟨h1, h2⟩ := hD1.setAs (vs := avs ++ [.ref q]) (l := s.asked ++ [[kk, x, y, (bodF c s).owner, v]]) (All2.snoc (hA.mono fun _ _ r => r.kp kn) ⟨rfl, q, rfl, upd_same⟩)
      exact ⟨A.as, avs, .ref q, rfl, rfl, kn.keep _ _ eas id, Nat.lt_of_le_of_lt (show avs.length ≤ 100 by omega) (by decide), k _ ((kn.weak fun _ z => z.elim).trans h2) h1⟩
    · have z2' : ¬ kk < (kv.length : Int) := of_decide_eq_false z2
      rw [if_neg (fun h => by omega)] at k
      exact k _ Kp.rfl hD
  · have z' : ¬ (avs.length : Int) < 32 := of_decide_eq_false z
    rw [if_neg (fun h => by omega)] at k
    exact iteF (k _ Kp.rfl hD)
end
end G
set_option Elab.async false
set_option linter.all false
set_option maxRecDepth 100000
set_option maxHeartbeats 4000000
namespace G
open PySem PySem.Spec PyProof.Rows L2
def spLoad : Sp := fun vs H Q _ => ∃ (A : PA) (c : Cfg) (s : S) (w : Nm), vs = [.ref A.x, .str w.str] ∧ PD H A c s ∧ WfS c s ∧ WfC c ∧ w ∈ Nm.all ∧ ∀ H', Kp M0 H H' → Q (.int (ldF c s w)) H'
def spStore : Sp := fun vs H Q _ => ∃ (A : PA) (c : Cfg) (s : S) (w : Nm) (v : Int), vs = [.ref A.x, .str w.str, .int v] ∧ PD H A c s ∧ WfS c s ∧ w ∈ Nm.sets ∧ ∀ H', Kp (Mp A) H H' → PD H' A c (setF c s w v) → Q .non H'
def tkA (c : Cfg) (b : Bod) : List (Key × V) := [(Sum.inr "x", .int b.x), (Sum.inr "y", .int b.y), (Sum.inr "dx", .int b.dx), (Sum.inr "dy", .int b.dy), (Sum.inr "tick", .int c.tick), (Sum.inr "id", .int b.num), (Sum.inr "owner", .int b.owner)]
def tkB (c : Cfg) (u : Int) : List (Key × V) := [(Sum.inr "buttons", .int u), (Sum.inr "other", .int c.other), (Sum.inr "side", .int c.side)]
theorem tkA_merge (c : Cfg) (b : Bod) : mergeK [] (tkA c b) = tkA c b := mergeK_new _ [] (by
  show (([Sum.inr "x", Sum.inr "y", Sum.inr "dx", Sum.inr "dy", Sum.inr "tick", Sum.inr "id", Sum.inr "owner"] : List Key)).Nodup
  decide +kernel)
theorem tkB_merge (c : Cfg) (u : Int) : mergeK [] (tkB c u) = tkB c u := mergeK_new _ [] (by
  show (([Sum.inr "buttons", Sum.inr "other", Sum.inr "side"] : List Key)).Nodup
  decide +kernel)
theorem tkAB_merge (c : Cfg) (b : Bod) (u : Int) : mergeK (tkA c b) (tkB c u) = tkA c b ++ tkB c u := mergeK_new _ _ (by
  show (([Sum.inr "x", Sum.inr "y", Sum.inr "dx", Sum.inr "dy", Sum.inr "tick", Sum.inr "id", Sum.inr "owner", Sum.inr "buttons", Sum.inr "other", Sum.inr "side"] : List Key)).Nodup
  decide +kernel)
section
variable {P : Program} {w : World} {K : PySem.W.Frag} {mg : Str → Option Value} {base : Heap}
theorem scm_Effects_load : FnScope ["self", "word", "number", "kind", "x", "y", "dx", "dy", "owner", "cells", "told"] ["self", "word"] (defScope sm_Effects_load) := ⟨rfl, rfl, rfl, by decide +kernel, rfl, by decide +kernel, by decide +kernel⟩
theorem ok_m_Effects_load (T : Tx w K mg) : CalM P w K mg base cEffects "load" 2 ["self", "word"] spLoad := by
  obtain ⟨fd, F⟩ : ∃ fd, Fun K "load" "Effects.load" sm_Effects_load 516 fd := T.fn 33 _ rfl
  refine T.calM F (T.me (cEffects, "load", 516) (by simp [meL])) (fun _ _ _ _ _ _ us hl => match us, hl with | [_, _], _ => rfl) ?_
  refine F.ok scm_Effects_load (fun vs H Q E h => ?_) (fun cdv A outer s H vs Q E hr h => ?_)
  · obtain ⟨A, c, s, w, rfl, _⟩ := h
    rfl
  obtain ⟨A, c, s, w, rfl, hD, hw, hc, hm, k⟩ := h
  have hu := hu_of hr
  refine ⟨_, (pss_cons (ps_if (pt_cmpR op_in_seq (pv 1) (gc T 45 (.ref 223) rfl) (by rfl)) (pss_one (ps_ret (pe_ix ix_tup (pe_ix ix_tup (pe_ix ix_list (pe_fld (pv 0) rfl) (pe_fld (pv 0) rfl) (fun _ _ => rfl)) pe_int (fun _ _ => rfl)) (pe_bm PySem.F.plainAttrs_tuple PySem.F.slot_tuple_index PySem.F.type_tuple_index mt_tup_index (gc T 45 (.ref 223) rfl) (pa_cons (pv 1) pa_nil)) (fun _ _ => rfl)))) pss_nil)
    (C8.pss_cut (ps_if (pt_cmpR op_in_seq (pv 1) (gc T 46 (.ref 224) rfl) (by rfl)) (pss_one (ps_ret (pe_ix ix_list (pe_fld (pv 0) rfl) (pe_bm PySem.F.plainAttrs_tuple PySem.F.slot_tuple_index PySem.F.type_tuple_index mt_tup_index (gc T 46 (.ref 224) rfl) (pa_cons (pv 1) pa_nil)) (fun _ _ => rfl)))) pss_nil)
    (pss_cons (ps_asg (pe_ix ix_list (pe_fld (pv 0) rfl) (pe_fld (pv 0) rfl) (fun _ _ => rfl)) (pg_tup rfl (pgs_cons (pg_name (i := 2) scm_Effects_load.nd rfl (Or.inl rfl)) (pgs_cons (pg_name (i := 3) scm_Effects_load.nd rfl (Or.inl rfl)) (pgs_cons (pg_name (i := 4) scm_Effects_load.nd rfl (Or.inl rfl)) (pgs_cons (pg_name (i := 5) scm_Effects_load.nd rfl (Or.inl rfl)) (pgs_cons (pg_name (i := 6) scm_Effects_load.nd rfl (Or.inl rfl)) (pgs_cons (pg_name (i := 7) scm_Effects_load.nd rfl (Or.inl rfl)) (pgs_cons (pg_name (i := 8) scm_Effects_load.nd rfl (Or.inl rfl)) (pgs_cons (pg_name (i := 9) scm_Effects_load.nd rfl (Or.inl rfl)) pgs_nil))))))))))
    (pss_cons (ps_set (i := 10) scm_Effects_load.nd rfl (Or.inl rfl) (pe_disp (pps_cons pe_str (pv 4) (pps_cons pe_str (pv 5) (pps_cons pe_str (pv 6) (pps_cons pe_str (pv 7) (pps_cons pe_str (pe_fld (pv 0) rfl) (pps_cons pe_str (pv 2) (pps_cons pe_str (pv 8) pps_nil))))))) (by rfl) (by rfl) (fun z => by cases z) (by decide)))
    (pss_cons (ps_expr (pe_bm PySem.F.plainAttrs_dict PySem.F.slot_dict_update PySem.F.type_dict_update mt_update (pv 10) (pa_cons (pe_disp (pps_cons pe_str (pe_m0 (ok_m_Effects_buttons T) (T.cl cEffects mem_cEffects) (hr.mono (by decide)) (pv 0)) (pps_cons pe_str (pe_fld (pv 0) rfl) (pps_cons pe_str (pe_fld (pv 0) rfl) pps_nil))) (by rfl) (by rfl) (fun z => by cases z) (by decide)) pa_nil)))
    (pss_one (ps_ret (pe_dget hu (pv 10) (pv 1) (fun _ _ => rfl))))))))), ?_⟩
  obtain ⟨lv, ex, elv⟩ := hD.x
  obtain ⟨bv, p, cc, b1, b2, hv, e1, e2⟩ := hD.me hw
  have q := hw.bod
  have hcl := q.cl
  have hsl := hw.sh
  have gC : ∀ i : Nat, i < 4 → ((bodF c s).cells.map V.int)[i]? = some (.int ((bodF c s).cells.getD i 0)) := fun i hi => by
    rw [List.getElem?_map, List.getD_eq_getElem?_getD, List.getElem?_eq_getElem (by omega)]
    rfl
  have gS : ∀ i : Nat, i < 8 → (s.sh.map V.int)[i]? = some (.int (s.sh.getD i 0)) := fun i hi => by
    rw [List.getElem?_map, List.getD_eq_getElem?_getD, List.getElem?_eq_getElem (by omega)]
    rfl
  simp only [Nm.all, List.mem_cons, List.not_mem_nil, or_false] at hm
  refine ⟨_, rfl, 223, _, rfl, .inr (T.sqT mem_cells H), rfl, flat_strs _, _, rfl, hit (fun hcell => ?_) (fun hcell => ?_)⟩
  · rcases hm with rfl | rfl | rfl | rfl | rfl | rfl | rfl | rfl | rfl | rfl | rfl | rfl | rfl | rfl | rfl | rfl | rfl | rfl | rfl | rfl | rfl | rfl
    · exact absurd hcell (by decide +kernel)
    · exact absurd hcell (by decide +kernel)
    · exact absurd hcell (by decide +kernel)
    · exact absurd hcell (by decide +kernel)
    · exact absurd hcell (by decide +kernel)
    · exact absurd hcell (by decide +kernel)
    · exact absurd hcell (by decide +kernel)
    · exact absurd hcell (by decide +kernel)
    · exact absurd hcell (by decide +kernel)
    · exact absurd hcell (by decide +kernel)
    · exact ⟨_, rfl, A.x, cEffects, A.dx, _, _, rfl, ex, T.cl _ mem_cEffects, T.no (cEffects, "bodies") (by simp [noL]), rfl, _, rfl, A.x, cEffects, A.dx, _, _, rfl, ex, T.cl _ mem_cEffects, T.no (cEffects, "at") (by simp [noL]), rfl, A.bo, _, _, _, rfl, rfl, SqL.of b1, atI_of rfl hv, p, _, 7, _, rfl, rfl, SqT.of e1, rfl, T.tyT mem_cells _, _, rfl, 223, _, _, 0, rfl, rfl, T.sqT mem_cells _, rfl, (by decide +kernel), cc, _, _, _, rfl, rfl, SqT.of e2, atI_of rfl (gC 0 (by decide)), k _ Kp.rfl⟩
    · exact ⟨_, rfl, A.x, cEffects, A.dx, _, _, rfl, ex, T.cl _ mem_cEffects, T.no (cEffects, "bodies") (by simp [noL]), rfl, _, rfl, A.x, cEffects, A.dx, _, _, rfl, ex, T.cl _ mem_cEffects, T.no (cEffects, "at") (by simp [noL]), rfl, A.bo, _, _, _, rfl, rfl, SqL.of b1, atI_of rfl hv, p, _, 7, _, rfl, rfl, SqT.of e1, rfl, T.tyT mem_cells _, _, rfl, 223, _, _, 1, rfl, rfl, T.sqT mem_cells _, rfl, (by decide +kernel), cc, _, _, _, rfl, rfl, SqT.of e2, atI_of rfl (gC 1 (by decide)), k _ Kp.rfl⟩
    · exact ⟨_, rfl, A.x, cEffects, A.dx, _, _, rfl, ex, T.cl _ mem_cEffects, T.no (cEffects, "bodies") (by simp [noL]), rfl, _, rfl, A.x, cEffects, A.dx, _, _, rfl, ex, T.cl _ mem_cEffects, T.no (cEffects, "at") (by simp [noL]), rfl, A.bo, _, _, _, rfl, rfl, SqL.of b1, atI_of rfl hv, p, _, 7, _, rfl, rfl, SqT.of e1, rfl, T.tyT mem_cells _, _, rfl, 223, _, _, 2, rfl, rfl, T.sqT mem_cells _, rfl, (by decide +kernel), cc, _, _, _, rfl, rfl, SqT.of e2, atI_of rfl (gC 2 (by decide)), k _ Kp.rfl⟩
    · exact ⟨_, rfl, A.x, cEffects, A.dx, _, _, rfl, ex, T.cl _ mem_cEffects, T.no (cEffects, "bodies") (by simp [noL]), rfl, _, rfl, A.x, cEffects, A.dx, _, _, rfl, ex, T.cl _ mem_cEffects, T.no (cEffects, "at") (by simp [noL]), rfl, A.bo, _, _, _, rfl, rfl, SqL.of b1, atI_of rfl hv, p, _, 7, _, rfl, rfl, SqT.of e1, rfl, T.tyT mem_cells _, _, rfl, 223, _, _, 3, rfl, rfl, T.sqT mem_cells _, rfl, (by decide +kernel), cc, _, _, _, rfl, rfl, SqT.of e2, atI_of rfl (gC 3 (by decide)), k _ Kp.rfl⟩
    · exact absurd hcell (by decide +kernel)
    · exact absurd hcell (by decide +kernel)
    · exact absurd hcell (by decide +kernel)
    · exact absurd hcell (by decide +kernel)
    · exact absurd hcell (by decide +kernel)
    · exact absurd hcell (by decide +kernel)
    · exact absurd hcell (by decide +kernel)
    · exact absurd hcell (by decide +kernel)
  refine ⟨fun σ' H' => σ' = [some (.ref A.x), some (.str w.str), none, none, none, none, none, none, none, none, none] ∧ H' = H ∧ valV (tkA c (bodF c s) ++ tkB c (butF c s)) (Sum.inr w.str) = some (.int (ldF c s w)), ?_, ?_⟩
  · refine ⟨_, rfl, 224, _, rfl, .inr (T.sqT mem_shared H), rfl, flat_strs _, _, rfl, hit (fun hs => ?_) (fun hs => ?_)⟩
    · rcases hm with rfl | rfl | rfl | rfl | rfl | rfl | rfl | rfl | rfl | rfl | rfl | rfl | rfl | rfl | rfl | rfl | rfl | rfl | rfl | rfl | rfl | rfl
      · exact absurd hs (by decide +kernel)
      · exact absurd hs (by decide +kernel)
      · exact absurd hs (by decide +kernel)
      · exact absurd hs (by decide +kernel)
      · exact absurd hs (by decide +kernel)
      · exact absurd hs (by decide +kernel)
      · exact absurd hs (by decide +kernel)
      · exact absurd hs (by decide +kernel)
      · exact absurd hs (by decide +kernel)
      · exact absurd hs (by decide +kernel)
      · exact absurd hcell (by decide +kernel)
      · exact absurd hcell (by decide +kernel)
      · exact absurd hcell (by decide +kernel)
      · exact absurd hcell (by decide +kernel)
      · exact ⟨_, rfl, A.x, cEffects, A.dx, _, _, rfl, ex, T.cl _ mem_cEffects, T.no (cEffects, "shared") (by simp [noL]), rfl, T.tyT mem_shared _, _, rfl, 224, _, _, 0, rfl, rfl, T.sqT mem_shared _, rfl, (by decide +kernel), A.sh, _, _, _, rfl, rfl, SqL.of hD.sh, atI_of rfl (gS 0 (by decide)), k _ Kp.rfl⟩
      · exact ⟨_, rfl, A.x, cEffects, A.dx, _, _, rfl, ex, T.cl _ mem_cEffects, T.no (cEffects, "shared") (by simp [noL]), rfl, T.tyT mem_shared _, _, rfl, 224, _, _, 1, rfl, rfl, T.sqT mem_shared _, rfl, (by decide +kernel), A.sh, _, _, _, rfl, rfl, SqL.of hD.sh, atI_of rfl (gS 1 (by decide)), k _ Kp.rfl⟩
      · exact ⟨_, rfl, A.x, cEffects, A.dx, _, _, rfl, ex, T.cl _ mem_cEffects, T.no (cEffects, "shared") (by simp [noL]), rfl, T.tyT mem_shared _, _, rfl, 224, _, _, 2, rfl, rfl, T.sqT mem_shared _, rfl, (by decide +kernel), A.sh, _, _, _, rfl, rfl, SqL.of hD.sh, atI_of rfl (gS 2 (by decide)), k _ Kp.rfl⟩
      · exact ⟨_, rfl, A.x, cEffects, A.dx, _, _, rfl, ex, T.cl _ mem_cEffects, T.no (cEffects, "shared") (by simp [noL]), rfl, T.tyT mem_shared _, _, rfl, 224, _, _, 3, rfl, rfl, T.sqT mem_shared _, rfl, (by decide +kernel), A.sh, _, _, _, rfl, rfl, SqL.of hD.sh, atI_of rfl (gS 3 (by decide)), k _ Kp.rfl⟩
      · exact ⟨_, rfl, A.x, cEffects, A.dx, _, _, rfl, ex, T.cl _ mem_cEffects, T.no (cEffects, "shared") (by simp [noL]), rfl, T.tyT mem_shared _, _, rfl, 224, _, _, 4, rfl, rfl, T.sqT mem_shared _, rfl, (by decide +kernel), A.sh, _, _, _, rfl, rfl, SqL.of hD.sh, atI_of rfl (gS 4 (by decide)), k _ Kp.rfl⟩
      · exact ⟨_, rfl, A.x, cEffects, A.dx, _, _, rfl, ex, T.cl _ mem_cEffects, T.no (cEffects, "shared") (by simp [noL]), rfl, T.tyT mem_shared _, _, rfl, 224, _, _, 5, rfl, rfl, T.sqT mem_shared _, rfl, (by decide +kernel), A.sh, _, _, _, rfl, rfl, SqL.of hD.sh, atI_of rfl (gS 5 (by decide)), k _ Kp.rfl⟩
      · exact ⟨_, rfl, A.x, cEffects, A.dx, _, _, rfl, ex, T.cl _ mem_cEffects, T.no (cEffects, "shared") (by simp [noL]), rfl, T.tyT mem_shared _, _, rfl, 224, _, _, 6, rfl, rfl, T.sqT mem_shared _, rfl, (by decide +kernel), A.sh, _, _, _, rfl, rfl, SqL.of hD.sh, atI_of rfl (gS 6 (by decide)), k _ Kp.rfl⟩
      · exact ⟨_, rfl, A.x, cEffects, A.dx, _, _, rfl, ex, T.cl _ mem_cEffects, T.no (cEffects, "shared") (by simp [noL]), rfl, T.tyT mem_shared _, _, rfl, 224, _, _, 7, rfl, rfl, T.sqT mem_shared _, rfl, (by decide +kernel), A.sh, _, _, _, rfl, rfl, SqL.of hD.sh, atI_of rfl (gS 7 (by decide)), k _ Kp.rfl⟩
    · rcases hm with rfl | rfl | rfl | rfl | rfl | rfl | rfl | rfl | rfl | rfl | rfl | rfl | rfl | rfl | rfl | rfl | rfl | rfl | rfl | rfl | rfl | rfl
      · exact ⟨rfl, rfl, rfl⟩
      · exact ⟨rfl, rfl, rfl⟩
      · exact ⟨rfl, rfl, rfl⟩
      · exact ⟨rfl, rfl, rfl⟩
      · exact ⟨rfl, rfl, rfl⟩
      · exact ⟨rfl, rfl, rfl⟩
      · exact ⟨rfl, rfl, rfl⟩
      · exact ⟨rfl, rfl, rfl⟩
      · exact ⟨rfl, rfl, rfl⟩
      · exact ⟨rfl, rfl, rfl⟩
      · exact absurd hcell (by decide +kernel)
      · exact absurd hcell (by decide +kernel)
      · exact absurd hcell (by decide +kernel)
      · exact absurd hcell (by decide +kernel)
      · exact absurd hs (by decide +kernel)
      · exact absurd hs (by decide +kernel)
      · exact absurd hs (by decide +kernel)
      · exact absurd hs (by decide +kernel)
      · exact absurd hs (by decide +kernel)
      · exact absurd hs (by decide +kernel)
      · exact absurd hs (by decide +kernel)
      · exact absurd hs (by decide +kernel)
  rintro σ' H' ⟨rfl, rfl, hval⟩
  refine ⟨_, rfl, A.x, cEffects, A.dx, _, _, rfl, ex, T.cl _ mem_cEffects, T.no (cEffects, "bodies") (by simp [noL]), rfl, _, rfl, A.x, cEffects, A.dx, _, _, rfl, ex, T.cl _ mem_cEffects, T.no (cEffects, "at") (by simp [noL]), rfl, A.bo, _, _, _, rfl, rfl, SqL.of b1, atI_of rfl hv, p, _, rfl, SqT.of e1, rfl, _, _, rfl, _, _, rfl, _, _, rfl, _, _, rfl, _, _, rfl, _, _, rfl, _, _, rfl, _, _, rfl, rfl, ?_⟩
  refine fun dp ndp => ?_
  have kd : Kp M0 H' (upd H' dp (.dK [])) := Kp.new ndp
  have ex1 := kd.keep _ _ ex id
  have ed : (upd H' dp (.dK [])) dp = some (.dK []) := upd_same
  show tPairs _ _ (upd H' dp (.dK [])) _
  generalize upd H' dp (.dK []) = H1 at kd ex1 ed
  refine ⟨_, rfl, _, rfl, _, rfl, _, rfl, _, rfl, A.x, cEffects, A.dx, _, _, rfl, ex1, T.cl _ mem_cEffects, T.no (cEffects, "tick") (by simp [noL]), rfl, _, rfl, _, rfl, ed, tkA c (bodF c s), rfl, (by show 7 ≤ 15; decide), ?_⟩
  rw [tkA_merge]
  have kd2 : Kp M0 H' (upd H1 dp (.dK (tkA c (bodF c s)))) := kd.priv ndp
  have ed2 : (upd H1 dp (.dK (tkA c (bodF c s)))) dp = some (.dK (tkA c (bodF c s))) := upd_same
  generalize upd H1 dp (.dK (tkA c (bodF c s))) = H2 at kd2 ed2
  refine ⟨_, rfl, .inr (.inr (.inl ⟨rfl, .inl ⟨_, ed2⟩⟩)), fun dq ndq => ?_⟩
  have kq : Kp M0 H2 (upd H2 dq (.dK [])) := Kp.new ndq
  have hD3 := hD.kp0 (kd2.trans kq)
  have ex3 := (kd2.trans kq).keep _ _ ex id
  have ed3 := kq.keep _ _ ed2 id
  have eq3 : (upd H2 dq (.dK [])) dq = some (.dK []) := upd_same
  have dne : dp ≠ dq := ne_of_none ed2 ndq
  have kz := kd2.trans kq
  show tPairs _ _ (upd H2 dq (.dK [])) _
  generalize upd H2 dq (.dK []) = H3 at kz hD3 ex3 ed3 eq3
  refine ⟨_, rfl, A.x, A.dx, _, rfl, ex3, rfl, A, c, s, rfl, hD3, hw, hc, _, rfl, A.x, cEffects, A.dx, _, _, rfl, ex3, T.cl _ mem_cEffects, T.no (cEffects, "other") (by simp [noL]), rfl, _, rfl, A.x, cEffects, A.dx, _, _, rfl, ex3, T.cl _ mem_cEffects, T.no (cEffects, "side") (by simp [noL]), rfl, eq3, tkB c (butF c s), rfl, (by show 3 ≤ 15; decide), ?_⟩
  rw [tkB_merge]
  refine ⟨dp, dq, tkA c (bodF c s), tkB c (butF c s), rfl, rfl, dne, ?_, upd_same, (by show 7 + 3 ≤ sizeLine; decide), ?_⟩
  · rw [upd_ne dne]
    exact ed3
  rw [tkAB_merge]
  refine ⟨_, rfl, _, rfl, dp, .int (ldF c s w), rfl, ?_, k _ ?_⟩
  · have := dget_of (H := upd (upd H3 dq (.dK (tkB c (butF c s)))) dp (.dK (tkA c (bodF c s) ++ tkB c (butF c s)))) (d := dp) upd_same w.str
    rw [hval] at this
    exact this
  · exact (kz.priv (kd2.free ndq)).priv ndp
theorem scm_Effects_store : FnScope ["self", "word", "value", "number", "kind", "x", "y", "dx", "dy", "owner", "cells", "place"] ["self", "word", "value"] (defScope sm_Effects_store) := ⟨rfl, rfl, rfl, by decide +kernel, rfl, by decide +kernel, by decide +kernel⟩
theorem ok_m_Effects_store (T : Tx w K mg) : CalM P w K mg base cEffects "store" 2 ["self", "word", "value"] spStore := by
  obtain ⟨fd, F⟩ : ∃ fd, Fun K "store" "Effects.store" sm_Effects_store 523 fd := T.fn 34 _ rfl
  refine T.calM F (T.me (cEffects, "store", 523) (by simp [meL])) (fun _ _ _ _ _ _ us hl => match us, hl with | [_, _, _], _ => rfl) ?_
  refine F.ok scm_Effects_store (fun vs H Q E h => ?_) (fun cdv A outer s H vs Q E hr h => ?_)
  · obtain ⟨A, c, s, w, v, rfl, _⟩ := h
    rfl
  obtain ⟨A, c, s, w, v, rfl, hD, hw, hm, k⟩ := h
  refine ⟨_, (pss_cons (ps_asg (pe_ix ix_list (pe_fld (pv 0) rfl) (pe_fld (pv 0) rfl) (fun _ _ => rfl)) (pg_tup rfl (pgs_cons (pg_name (i := 3) scm_Effects_store.nd rfl (Or.inl rfl)) (pgs_cons (pg_name (i := 4) scm_Effects_store.nd rfl (Or.inl rfl)) (pgs_cons (pg_name (i := 5) scm_Effects_store.nd rfl (Or.inl rfl)) (pgs_cons (pg_name (i := 6) scm_Effects_store.nd rfl (Or.inl rfl)) (pgs_cons (pg_name (i := 7) scm_Effects_store.nd rfl (Or.inl rfl)) (pgs_cons (pg_name (i := 8) scm_Effects_store.nd rfl (Or.inl rfl)) (pgs_cons (pg_name (i := 9) scm_Effects_store.nd rfl (Or.inl rfl)) (pgs_cons (pg_name (i := 10) scm_Effects_store.nd rfl (Or.inl rfl)) pgs_nil))))))))))
    (C8.pss_cut (ps_if (pt_cmpR op_in_seq (pv 1) (gc T 46 (.ref 224) rfl) (by rfl)) (pss_one (ps_asg (pv 2) (pg_sub (pe_fld (pv 0) rfl) (pe_bm PySem.F.plainAttrs_tuple PySem.F.slot_tuple_index PySem.F.type_tuple_index mt_tup_index (gc T 46 (.ref 224) rfl) (pa_cons (pv 1) pa_nil)) set_list))) (pss_one (ps_if (pt_cmpR op_in_seq (pv 1) (gc T 45 (.ref 223) rfl) (by rfl)) (pss_cons (ps_set (i := 11) scm_Effects_store.nd rfl (Or.inl rfl) (pe_bm PySem.F.plainAttrs_tuple PySem.F.slot_tuple_index PySem.F.type_tuple_index mt_tup_index (gc T 45 (.ref 223) rfl) (pa_cons (pv 1) pa_nil)))
    (pss_one (ps_set (i := 10) scm_Effects_store.nd rfl (Or.inl rfl) (pe_op op_catA (pe_op op_catA (pe_slice sl_tupA (pv 10) po_none (po_some (pv 11))) (pe_tup (pa_cons (pv 2) pa_nil))) (pe_slice sl_tupA (pv 10) (po_some (pe_op op_add (pv 11) pe_int)) po_none))))) (pss_one (ps_if (pt_cmpR op_eq (pv 1) pe_str (nomark _)) (pss_one (ps_set (i := 7) scm_Effects_store.nd rfl (Or.inl rfl) (pe_k (ok_p_nearer T) (hr.mono (by decide)) (pa_cons (pv 2) (pa_cons (gc T 88 (.int (16)) rfl) pa_nil))))) (pss_one (ps_set (i := 8) scm_Effects_store.nd rfl (Or.inl rfl) (pe_k (ok_p_nearer T) (hr.mono (by decide)) (pa_cons (pv 2) (pa_cons (gc T 88 (.int (16)) rfl) pa_nil))))))))))
    (pss_one (ps_asg (pe_tup (pa_cons (pv 3) (pa_cons (pv 4) (pa_cons (pv 5) (pa_cons (pv 6) (pa_cons (pv 7) (pa_cons (pv 8) (pa_cons (pv 9) (pa_cons (pv 10) pa_nil))))))))) (pg_sub (pe_fld (pv 0) rfl) (pe_fld (pv 0) rfl) set_list))))), ?_⟩
  obtain ⟨lv, ex, elv⟩ := hD.x
  obtain ⟨bv, p, cc, b1, b2, hv, e1, e2⟩ := hD.me hw
  have q := hw.bod
  have hcl := q.cl
  have hsl := hw.sh
  have hbl := b2.len
  have hix := hw.ix
  refine ⟨_, rfl, A.x, cEffects, A.dx, _, _, rfl, ex, T.cl _ mem_cEffects, T.no (cEffects, "bodies") (by simp [noL]), rfl, _, rfl, A.x, cEffects, A.dx, _, _, rfl, ex, T.cl _ mem_cEffects, T.no (cEffects, "at") (by simp [noL]), rfl, A.bo, _, _, _, rfl, rfl, SqL.of b1, atI_of rfl hv, p, _, rfl, SqT.of e1, rfl, _, _, rfl, _, _, rfl, _, _, rfl, _, _, rfl, _, _, rfl, _, _, rfl, _, _, rfl, _, _, rfl, rfl, ?_⟩
  refine ⟨fun σ' H' => ∃ (b' : Bod) (cc' : Addr) (s1 : S) (k11 : Option V), σ' = [some (.ref A.x), some (.str w.str), some (.int v), some (.int b'.num), some (.int b'.kind), some (.int b'.x), some (.int b'.y), some (.int b'.dx), some (.int b'.dy), some (.int b'.owner), some (.ref cc'), k11] ∧
    Kp (Mp A) H H' ∧ PD H' A c s1 ∧ s1.bs = s.bs ∧ H' cc' = some (.tup (b'.cells.map V.int)) ∧ putB c s1 b' = setF c s w v, ?_, ?_⟩
  · simp only [Nm.sets, List.mem_cons, List.not_mem_nil, or_false] at hm
    refine ⟨_, rfl, 224, _, rfl, .inr (T.sqT mem_shared H), rfl, flat_strs _, _, rfl, hit (fun hs => ?_) (fun hs => ?_)⟩
    · rcases hm with rfl | rfl | rfl | rfl | rfl | rfl | rfl | rfl | rfl | rfl | rfl | rfl | rfl | rfl
      · exact absurd hs (by decide +kernel)
      · exact absurd hs (by decide +kernel)
      · exact absurd hs (by decide +kernel)
      · exact absurd hs (by decide +kernel)
      · exact absurd hs (by decide +kernel)
      · exact absurd hs (by decide +kernel)
      · obtain ⟨h1, h2⟩ := hD.setSh (s.sh.set 0 v)
        refine ⟨_, rfl, _, rfl, A.x, cEffects, A.dx, _, _, rfl, ex, T.cl _ mem_cEffects, T.no (cEffects, "shared") (by simp [noL]), rfl, T.tyT mem_shared _, _, rfl, 224, _, _, 0, rfl, rfl, T.sqT mem_shared _, rfl, (by decide +kernel), A.sh, _, _, 0, rfl, rfl, hD.sh, ?_, ?_⟩
        · unfold ixN
          rw [List.length_map, hsl]
          rfl
        · rw [← List.map_set]
          refine ⟨bodF c s, cc, { s with sh := s.sh.set 0 v }, none, rfl, h2, h1, rfl, h2.tup _ _ e2, ?_⟩
          show { s with sh := s.sh.set 0 v, bs := s.bs.set c.ix (bodF c { s with sh := s.sh.set 0 v }) } = _
          rw [show bodF c { s with sh := s.sh.set 0 v } = bodF c s from rfl, List.set_getElem?_self' hw.get]
          rfl
      · obtain ⟨h1, h2⟩ := hD.setSh (s.sh.set 1 v)
        refine ⟨_, rfl, _, rfl, A.x, cEffects, A.dx, _, _, rfl, ex, T.cl _ mem_cEffects, T.no (cEffects, "shared") (by simp [noL]), rfl, T.tyT mem_shared _, _, rfl, 224, _, _, 1, rfl, rfl, T.sqT mem_shared _, rfl, (by decide +kernel), A.sh, _, _, 1, rfl, rfl, hD.sh, ?_, ?_⟩
        · unfold ixN
          rw [List.length_map, hsl]
          rfl
        · rw [← List.map_set]
          refine ⟨bodF c s, cc, { s with sh := s.sh.set 1 v }, none, rfl, h2, h1, rfl, h2.tup _ _ e2, ?_⟩
          show { s with sh := s.sh.set 1 v, bs := s.bs.set c.ix (bodF c { s with sh := s.sh.set 1 v }) } = _
          rw [show bodF c { s with sh := s.sh.set 1 v } = bodF c s from rfl, List.set_getElem?_self' hw.get]
          rfl
      · obtain ⟨h1, h2⟩ := hD.setSh (s.sh.set 2 v)
        refine ⟨_, rfl, _, rfl, A.x, cEffects, A.dx, _, _, rfl, ex, T.cl _ mem_cEffects, T.no (cEffects, "shared") (by simp [noL]), rfl, T.tyT mem_shared _, _, rfl, 224, _, _, 2, rfl, rfl, T.sqT mem_shared _, rfl, (by decide +kernel), A.sh, _, _, 2, rfl, rfl, hD.sh, ?_, ?_⟩
        · unfold ixN
          rw [List.length_map, hsl]
          rfl
        · rw [← List.map_set]
          refine ⟨bodF c s, cc, { s with sh := s.sh.set 2 v }, none, rfl, h2, h1, rfl, h2.tup _ _ e2, ?_⟩
          show { s with sh := s.sh.set 2 v, bs := s.bs.set c.ix (bodF c { s with sh := s.sh.set 2 v }) } = _
          rw [show bodF c { s with sh := s.sh.set 2 v } = bodF c s from rfl, List.set_getElem?_self' hw.get]
          rfl
      · obtain ⟨h1, h2⟩ := hD.setSh (s.sh.set 3 v)
        refine ⟨_, rfl, _, rfl, A.x, cEffects, A.dx, _, _, rfl, ex, T.cl _ mem_cEffects, T.no (cEffects, "shared") (by simp [noL]), rfl, T.tyT mem_shared _, _, rfl, 224, _, _, 3, rfl, rfl, T.sqT mem_shared _, rfl, (by decide +kernel), A.sh, _, _, 3, rfl, rfl, hD.sh, ?_, ?_⟩
        · unfold ixN
          rw [List.length_map, hsl]
          rfl
        · rw [← List.map_set]
          refine ⟨bodF c s, cc, { s with sh := s.sh.set 3 v }, none, rfl, h2, h1, rfl, h2.tup _ _ e2, ?_⟩
          show { s with sh := s.sh.set 3 v, bs := s.bs.set c.ix (bodF c { s with sh := s.sh.set 3 v }) } = _
          rw [show bodF c { s with sh := s.sh.set 3 v } = bodF c s from rfl, List.set_getElem?_self' hw.get]
          rfl
      · obtain ⟨h1, h2⟩ := hD.setSh (s.sh.set 4 v)
        refine ⟨_, rfl, _, rfl, A.x, cEffects, A.dx, _, _, rfl, ex, T.cl _ mem_cEffects, T.no (cEffects, "shared") (by simp [noL]), rfl, T.tyT mem_shared _, _, rfl, 224, _, _, 4, rfl, rfl, T.sqT mem_shared _, rfl, (by decide +kernel), A.sh, _, _, 4, rfl, rfl, hD.sh, ?_, ?_⟩
        · unfold ixN
          rw [List.length_map, hsl]
          rfl
        · rw [← List.map_set]
          refine ⟨bodF c s, cc, { s with sh := s.sh.set 4 v }, none, rfl, h2, h1, rfl, h2.tup _ _ e2, ?_⟩
          show { s with sh := s.sh.set 4 v, bs := s.bs.set c.ix (bodF c { s with sh := s.sh.set 4 v }) } = _
          rw [show bodF c { s with sh := s.sh.set 4 v } = bodF c s from rfl, List.set_getElem?_self' hw.get]
          rfl
      · obtain ⟨h1, h2⟩ := hD.setSh (s.sh.set 5 v)
        refine ⟨_, rfl, _, rfl, A.x, cEffects, A.dx, _, _, rfl, ex, T.cl _ mem_cEffects, T.no (cEffects, "shared") (by simp [noL]), rfl, T.tyT mem_shared _, _, rfl, 224, _, _, 5, rfl, rfl, T.sqT mem_shared _, rfl, (by decide +kernel), A.sh, _, _, 5, rfl, rfl, hD.sh, ?_, ?_⟩
        · unfold ixN
          rw [List.length_map, hsl]
          rfl
        · rw [← List.map_set]
          refine ⟨bodF c s, cc, { s with sh := s.sh.set 5 v }, none, rfl, h2, h1, rfl, h2.tup _ _ e2, ?_⟩
          show { s with sh := s.sh.set 5 v, bs := s.bs.set c.ix (bodF c { s with sh := s.sh.set 5 v }) } = _
          rw [show bodF c { s with sh := s.sh.set 5 v } = bodF c s from rfl, List.set_getElem?_self' hw.get]
          rfl
      · obtain ⟨h1, h2⟩ := hD.setSh (s.sh.set 6 v)
        refine ⟨_, rfl, _, rfl, A.x, cEffects, A.dx, _, _, rfl, ex, T.cl _ mem_cEffects, T.no (cEffects, "shared") (by simp [noL]), rfl, T.tyT mem_shared _, _, rfl, 224, _, _, 6, rfl, rfl, T.sqT mem_shared _, rfl, (by decide +kernel), A.sh, _, _, 6, rfl, rfl, hD.sh, ?_, ?_⟩
        · unfold ixN
          rw [List.length_map, hsl]
          rfl
        · rw [← List.map_set]
          refine ⟨bodF c s, cc, { s with sh := s.sh.set 6 v }, none, rfl, h2, h1, rfl, h2.tup _ _ e2, ?_⟩
          show { s with sh := s.sh.set 6 v, bs := s.bs.set c.ix (bodF c { s with sh := s.sh.set 6 v }) } = _
          rw [show bodF c { s with sh := s.sh.set 6 v } = bodF c s from rfl, List.set_getElem?_self' hw.get]
          rfl
      · obtain ⟨h1, h2⟩ := hD.setSh (s.sh.set 7 v)
        refine ⟨_, rfl, _, rfl, A.x, cEffects, A.dx, _, _, rfl, ex, T.cl _ mem_cEffects, T.no (cEffects, "shared") (by simp [noL]), rfl, T.tyT mem_shared _, _, rfl, 224, _, _, 7, rfl, rfl, T.sqT mem_shared _, rfl, (by decide +kernel), A.sh, _, _, 7, rfl, rfl, hD.sh, ?_, ?_⟩
        · unfold ixN
          rw [List.length_map, hsl]
          rfl
        · rw [← List.map_set]
          refine ⟨bodF c s, cc, { s with sh := s.sh.set 7 v }, none, rfl, h2, h1, rfl, h2.tup _ _ e2, ?_⟩
          show { s with sh := s.sh.set 7 v, bs := s.bs.set c.ix (bodF c { s with sh := s.sh.set 7 v }) } = _
          rw [show bodF c { s with sh := s.sh.set 7 v } = bodF c s from rfl, List.set_getElem?_self' hw.get]
          rfl
    refine ⟨_, rfl, 223, _, rfl, .inr (T.sqT mem_cells H), rfl, flat_strs _, _, rfl, hit (fun hcell => ?_) (fun hcell => ?_)⟩
    · obtain ⟨x0, x1, x2, x3, ec⟩ : ∃ x0 x1 x2 x3, (bodF c s).cells = [x0, x1, x2, x3] := by
        match h : (bodF c s).cells, hcl with
        | [x0, x1, x2, x3], _ => exact ⟨x0, x1, x2, x3, rfl⟩
      rw [ec] at e2
      rcases hm with rfl | rfl | rfl | rfl | rfl | rfl | rfl | rfl | rfl | rfl | rfl | rfl | rfl | rfl
      · exact absurd hcell (by decide +kernel)
      · exact absurd hcell (by decide +kernel)
      · refine ⟨T.tyT mem_cells _, _, rfl, 223, _, _, 0, rfl, rfl, T.sqT mem_cells _, rfl, (by decide +kernel), _, rfl, _, rfl, 0, rfl, cc, _, rfl, SqT.of e2, fun q => absurd q.2 (by show ¬ (0 : Nat) = 4; decide), fun _ p1 np1 => ⟨_, rfl, (by show 1 ≤ sizeLine; decide), fun q nq => ⟨p1, q, _, _, rfl, rfl, SqT.of ((Kp.new (M := M0) nq).tup _ _ upd_same), SqT.of upd_same, (by show 0 + 1 ≤ sizeLine; decide), fun _ => ?_, (fun z => absurd rfl z), (fun z => absurd rfl z)⟩⟩⟩
        refine ⟨_, rfl, _, rfl, _, _, rfl, rfl, 1, rfl, cc, _, rfl, SqT.of (((Kp.new (M := M0) np1).trans (Kp.new nq)).tup _ _ e2), fun q => absurd q.1 (by show ¬ (1 : Nat) = 0; decide), fun _ p2 np2 => ⟨q, p2, _, _, rfl, rfl, SqT.of ((Kp.new (M := M0) np2).tup _ _ upd_same), SqT.of upd_same, (by show 1 + 3 ≤ sizeLine; decide), (fun z => by have y := congrArg List.length z; exact absurd y (by show ¬ (1 : Nat) = 0; decide)), (fun _ z => by have y := congrArg List.length z; exact absurd y (by show ¬ (3 : Nat) = 0; decide)), fun _ _ r2 nr2 => ?_⟩⟩
        have kz := fun o => ((Kp.new (M := M0) np1).trans ((Kp.new (M := M0) nq).trans ((Kp.new (M := M0) np2).trans (Kp.new (o := o) nr2))))
        refine ⟨{ bodF c s with cells := (bodF c s).cells.set 0 v }, _, s, _, rfl, (kz _).weak fun _ z => z.elim, hD.kp0 (kz _), rfl, ?_, rfl⟩
        show _ = some (HO.tup (((bodF c s).cells.set 0 v).map V.int))
        rw [ec]
        exact upd_same
      · refine ⟨T.tyT mem_cells _, _, rfl, 223, _, _, 1, rfl, rfl, T.sqT mem_cells _, rfl, (by decide +kernel), _, rfl, _, rfl, 1, rfl, cc, _, rfl, SqT.of e2, fun q => absurd q.2 (by show ¬ (1 : Nat) = 4; decide), fun _ p1 np1 => ⟨_, rfl, (by show 1 ≤ sizeLine; decide), fun q nq => ⟨p1, q, _, _, rfl, rfl, SqT.of ((Kp.new (M := M0) nq).tup _ _ upd_same), SqT.of upd_same, (by show 1 + 1 ≤ sizeLine; decide), (fun z => by have y := congrArg List.length z; exact absurd y (by show ¬ (1 : Nat) = 0; decide)), (fun _ z => by have y := congrArg List.length z; exact absurd y (by show ¬ (1 : Nat) = 0; decide)), fun _ _ r1 nr1 => ?_⟩⟩⟩
        refine ⟨_, rfl, _, rfl, _, _, rfl, rfl, 2, rfl, cc, _, rfl, SqT.of (((Kp.new (M := M0) np1).trans ((Kp.new nq).trans (Kp.new nr1))).tup _ _ e2), fun q => absurd q.1 (by show ¬ (2 : Nat) = 0; decide), fun _ p2 np2 => ⟨r1, p2, _, _, rfl, rfl, SqT.of ((Kp.new (M := M0) np2).tup _ _ upd_same), SqT.of upd_same, (by show 2 + 2 ≤ sizeLine; decide), (fun z => by have y := congrArg List.length z; exact absurd y (by show ¬ (2 : Nat) = 0; decide)), (fun _ z => by have y := congrArg List.length z; exact absurd y (by show ¬ (2 : Nat) = 0; decide)), fun _ _ r2 nr2 => ?_⟩⟩
        have kz := fun o => ((Kp.new (M := M0) np1).trans ((Kp.new (M := M0) nq).trans ((Kp.new (M := M0) nr1).trans ((Kp.new (M := M0) np2).trans (Kp.new (o := o) nr2)))))
        refine ⟨{ bodF c s with cells := (bodF c s).cells.set 1 v }, _, s, _, rfl, (kz _).weak fun _ z => z.elim, hD.kp0 (kz _), rfl, ?_, rfl⟩
        show _ = some (HO.tup (((bodF c s).cells.set 1 v).map V.int))
        rw [ec]
        exact upd_same
      · refine ⟨T.tyT mem_cells _, _, rfl, 223, _, _, 2, rfl, rfl, T.sqT mem_cells _, rfl, (by decide +kernel), _, rfl, _, rfl, 2, rfl, cc, _, rfl, SqT.of e2, fun q => absurd q.2 (by show ¬ (2 : Nat) = 4; decide), fun _ p1 np1 => ⟨_, rfl, (by show 1 ≤ sizeLine; decide), fun q nq => ⟨p1, q, _, _, rfl, rfl, SqT.of ((Kp.new (M := M0) nq).tup _ _ upd_same), SqT.of upd_same, (by show 2 + 1 ≤ sizeLine; decide), (fun z => by have y := congrArg List.length z; exact absurd y (by show ¬ (2 : Nat) = 0; decide)), (fun _ z => by have y := congrArg List.length z; exact absurd y (by show ¬ (1 : Nat) = 0; decide)), fun _ _ r1 nr1 => ?_⟩⟩⟩
        refine ⟨_, rfl, _, rfl, _, _, rfl, rfl, 3, rfl, cc, _, rfl, SqT.of (((Kp.new (M := M0) np1).trans ((Kp.new nq).trans (Kp.new nr1))).tup _ _ e2), fun q => absurd q.1 (by show ¬ (3 : Nat) = 0; decide), fun _ p2 np2 => ⟨r1, p2, _, _, rfl, rfl, SqT.of ((Kp.new (M := M0) np2).tup _ _ upd_same), SqT.of upd_same, (by show 3 + 1 ≤ sizeLine; decide), (fun z => by have y := congrArg List.length z; exact absurd y (by show ¬ (3 : Nat) = 0; decide)), (fun _ z => by have y := congrArg List.length z; exact absurd y (by show ¬ (1 : Nat) = 0; decide)), fun _ _ r2 nr2 => ?_⟩⟩
        have kz := fun o => ((Kp.new (M := M0) np1).trans ((Kp.new (M := M0) nq).trans ((Kp.new (M := M0) nr1).trans ((Kp.new (M := M0) np2).trans (Kp.new (o := o) nr2)))))
        refine ⟨{ bodF c s with cells := (bodF c s).cells.set 2 v }, _, s, _, rfl, (kz _).weak fun _ z => z.elim, hD.kp0 (kz _), rfl, ?_, rfl⟩
        show _ = some (HO.tup (((bodF c s).cells.set 2 v).map V.int))
        rw [ec]
        exact upd_same
      · refine ⟨T.tyT mem_cells _, _, rfl, 223, _, _, 3, rfl, rfl, T.sqT mem_cells _, rfl, (by decide +kernel), _, rfl, _, rfl, 3, rfl, cc, _, rfl, SqT.of e2, fun q => absurd q.2 (by show ¬ (3 : Nat) = 4; decide), fun _ p1 np1 => ⟨_, rfl, (by show 1 ≤ sizeLine; decide), fun q nq => ⟨p1, q, _, _, rfl, rfl, SqT.of ((Kp.new (M := M0) nq).tup _ _ upd_same), SqT.of upd_same, (by show 3 + 1 ≤ sizeLine; decide), (fun z => by have y := congrArg List.length z; exact absurd y (by show ¬ (3 : Nat) = 0; decide)), (fun _ z => by have y := congrArg List.length z; exact absurd y (by show ¬ (1 : Nat) = 0; decide)), fun _ _ r1 nr1 => ?_⟩⟩⟩
        refine ⟨_, rfl, _, rfl, _, _, rfl, rfl, 4, rfl, cc, _, rfl, SqT.of (((Kp.new (M := M0) np1).trans ((Kp.new nq).trans (Kp.new nr1))).tup _ _ e2), fun q => absurd q.1 (by show ¬ (4 : Nat) = 0; decide), fun _ p2 np2 => ⟨r1, p2, _, _, rfl, rfl, SqT.of ((Kp.new (M := M0) np2).tup _ _ upd_same), SqT.of upd_same, (by show 4 + 0 ≤ sizeLine; decide), (fun z => by have y := congrArg List.length z; exact absurd y (by show ¬ (4 : Nat) = 0; decide)), fun _ _ => ?_, (fun _ z => absurd rfl z)⟩⟩
        have kz := fun o => ((Kp.new (M := M0) np1).trans ((Kp.new (M := M0) nq).trans ((Kp.new (M := M0) nr1).trans (Kp.new (o := o) np2))))
        refine ⟨{ bodF c s with cells := (bodF c s).cells.set 3 v }, _, s, _, rfl, (kz _).weak fun _ z => z.elim, hD.kp0 (kz _), rfl, ?_, rfl⟩
        show _ = some (HO.tup (((bodF c s).cells.set 3 v).map V.int))
        rw [ec]
        exact (Kp.new (M := M0) np2).tup _ _ upd_same
      · exact absurd hs (by decide +kernel)
      · exact absurd hs (by decide +kernel)
      · exact absurd hs (by decide +kernel)
      · exact absurd hs (by decide +kernel)
      · exact absurd hs (by decide +kernel)
      · exact absurd hs (by decide +kernel)
      · exact absurd hs (by decide +kernel)
      · exact absurd hs (by decide +kernel)
    · rcases hm with rfl | rfl | rfl | rfl | rfl | rfl | rfl | rfl | rfl | rfl | rfl | rfl | rfl | rfl
      · exact ⟨_, rfl, rfl, _, rfl, hit (fun _ => ⟨_, rfl, v, rfl, { bodF c s with dx := nearF v }, cc, s, none, rfl, Kp.rfl, hD, rfl, e2, rfl⟩) (fun c => absurd c (by decide +kernel))⟩
      · exact ⟨_, rfl, rfl, _, rfl, hit (fun c => absurd c (by decide +kernel)) (fun _ => ⟨_, rfl, v, rfl, { bodF c s with dy := nearF v }, cc, s, none, rfl, Kp.rfl, hD, rfl, e2, rfl⟩)⟩
      · exact absurd hcell (by decide +kernel)
      · exact absurd hcell (by decide +kernel)
      · exact absurd hcell (by decide +kernel)
      · exact absurd hcell (by decide +kernel)
      · exact absurd hs (by decide +kernel)
      · exact absurd hs (by decide +kernel)
      · exact absurd hs (by decide +kernel)
      · exact absurd hs (by decide +kernel)
      · exact absurd hs (by decide +kernel)
      · exact absurd hs (by decide +kernel)
      · exact absurd hs (by decide +kernel)
      · exact absurd hs (by decide +kernel)
  rintro σ' H1 ⟨b', cc', s1, k11, rfl, kp1, hD1, es, ec, he⟩
  obtain ⟨lv1, ex1, _⟩ := hD1.x
  obtain ⟨bv1, c1, c2⟩ := hD1.bo
  have hl1 := c2.len
  refine ⟨_, rfl, _, rfl, _, rfl, _, rfl, _, rfl, _, rfl, _, rfl, _, rfl, (by show 8 ≤ sizeLine; decide), fun t nt => ?_⟩
  have kt : Kp M0 H1 (upd H1 t (.tup (blV b' cc'))) := Kp.new nt
  have hD2 := hD1.kp0 kt
  have ex2 := kt.keep _ _ ex1 id
  refine ⟨_, rfl, A.x, cEffects, A.dx, _, _, rfl, ex2, T.cl _ mem_cEffects, T.no (cEffects, "bodies") (by simp [noL]), rfl, _, rfl, A.x, cEffects, A.dx, _, _, rfl, ex2, T.cl _ mem_cEffects, T.no (cEffects, "at") (by simp [noL]), rfl, A.bo, bv1, _, c.ix, rfl, rfl, kt.keep _ _ c1 id, ?_, ?_⟩
  · unfold ixN
    rw [if_pos (by omega), if_pos (by rw [hl1, es]; omega), Int.toNat_natCast]
  · obtain ⟨h1, h2⟩ := hD2.setBo (vs := bv1.set c.ix (.ref t)) (bs := s1.bs.set c.ix b') (All2.set ⟨t, cc', rfl, upd_same, kt.tup _ _ ec⟩ _ (c2.mono fun _ _ r => r.kp kt))
    refine k _ (kp1.trans ((kt.weak fun _ z => z.elim).trans h2)) ?_
    rw [← he]
    exact h1
end
end G
set_option Elab.async false
set_option linter.all false
set_option maxRecDepth 100000
set_option maxHeartbeats 4000000
namespace G
open PySem PySem.Spec PyProof.Rows L2
def spDrawM : Sp := fun vs H Q _ => ∃ (A : PA) (c : Cfg) (s : S) (v : Int), vs = [.ref A.x, .int v] ∧ PD H A c s ∧ WfS c s ∧ ∀ H', Kp (Mp A) H H' → PD H' A c (oneF c s .draw v).2 → Q (.int (oneF c s .draw v).1) H'
def spShove : Sp := fun vs H Q _ => ∃ (A : PA) (c : Cfg) (s : S) (n a b : Int), vs = [.ref A.x, .int n, .int a, .int b] ∧ PD H A c s ∧ WfS c s ∧ ∀ H', Kp (Mp A) H H' → PD H' A c (pushF s n a b) → Q .non H'
def spGoP : Sp := fun vs H Q _ => ∃ (A : PA) (c : Cfg) (s : S), vs = [.ref A.x] ∧ PD H A c s ∧ WfC c ∧ ∀ H', Kp (Mp A) H H' → PD H' A c { s with gone := true } → Q .non H'
theorem push_at {bs : List Bod} (asc : (bs.map (·.num)).Pairwise (· < ·)) {i : Nat} {b : Bod} {n a d : Int} (e : bs[i]? = some b) (hb : b.num = n) : bs.map (shoveB n a d) = bs.set i { b with dx := nearF (b.dx + a), dy := nearF (b.dy + d) } := by
  apply List.ext_getElem?
  intro j
  have hil := (List.getElem?_eq_some_iff.mp e).1
  by_cases z : i = j
  · subst z
    rw [List.getElem?_set_self hil, List.getElem?_map, e]
    show some (shoveB n a d b) = _
    unfold shoveB
    rw [if_pos hb]
  · rw [List.getElem?_set_ne z, List.getElem?_map]
    cases q : bs[j]? with
    | none => rfl
    | some y =>
      show some (shoveB n a d y) = some y
      unfold shoveB
      rw [if_neg (fun h => z (num_inj asc e q (hb.trans h.symm)))]
theorem push_no {bs : List Bod} {n a d : Int} (h : ∀ x ∈ bs, x.num ≠ n) : bs.map (shoveB n a d) = bs := by
  apply List.ext_getElem?
  intro j
  rw [List.getElem?_map]
  cases q : bs[j]? with
  | none => rfl
  | some y =>
    show some (shoveB n a d y) = some y
    unfold shoveB
    rw [if_neg (h y (List.mem_of_getElem? q))]
theorem lvS_gone (c : Cfg) (s : S) : lvS c { s with gone := true } = insF c.num c.lv0 := by
  unfold lvS
  rw [if_pos rfl]
theorem go_is {c : Cfg} (hc : WfC c) {s : S} {ns : List Int} (ha : ns.Pairwise (· < ·)) (hm : ∀ k : Int, k ∈ ns ↔ k ∈ lvS c s ++ [c.num]) : ns = lvS c { s with gone := true } := by
  have h2 := lvS_asc hc { s with gone := true }
  have hm2 : ∀ k : Int, k ∈ ns ↔ k ∈ lvS c { s with gone := true } := fun k => by
    rw [hm, lvS_gone, insF_mem]
    unfold lvS
    split
    · rw [List.mem_append, insF_mem, List.mem_singleton]
      constructor
      · rintro ((h | h) | h)
        · exact .inl h
        · exact .inr h
        · exact .inl h
      · rintro (h | h)
        · exact .inr h
        · exact .inl (.inr h)
    · rw [List.mem_append, List.mem_singleton]
      exact Or.comm
  have n1 : ns.Nodup := ha.imp fun h => by omega
  have n2 : (lvS c { s with gone := true }).Nodup := h2.imp fun h => by omega
  have p := (List.perm_ext_iff_of_nodup n1 n2).mpr hm2
  exact List.Perm.eq_of_pairwise (fun a b _ _ x y => by omega) ha h2 p
section
variable {P : Program} {w : World} {K : PySem.W.Frag} {mg : Str → Option Value} {base : Heap}
theorem scm_Effects_draw : FnScope ["self", "below", "found"] ["self", "below"] (defScope sm_Effects_draw) := ⟨rfl, rfl, rfl, by decide +kernel, rfl, by decide +kernel, by decide +kernel⟩
theorem ok_m_Effects_draw (T : Tx w K mg) : CalM P w K mg base cEffects "draw" 3 ["self", "below"] spDrawM := by
  obtain ⟨fd, F⟩ : ∃ fd, Fun K "draw" "Effects.draw" sm_Effects_draw 530 fd := T.fn 35 _ rfl
  refine T.calM F (T.me (cEffects, "draw", 530) (by simp [meL])) (fun _ _ _ _ _ _ us hl => match us, hl with | [_, _], _ => rfl) ?_
  refine F.ok scm_Effects_draw (fun vs H Q E h => ?_) (fun cdv A outer s H vs Q E hr h => ?_)
  · obtain ⟨A, c, s, v, rfl, _⟩ := h
    rfl
  obtain ⟨A, c, s, v, rfl, hD, hw, k⟩ := h
  refine ⟨_, (pss_cons (ps_asg (pe_k (ok_p_draw T) (hr.mono (by decide)) (pa_cons (pe_fld (pv 0) rfl) (pa_cons (pv 1) pa_nil))) (pg_tup rfl (pgs_cons (pg_name (i := 2) scm_Effects_draw.nd rfl (Or.inl rfl)) (pgs_cons (pg_fld (pv 0)) pgs_nil))))
    (pss_one (ps_ret (pv 2)))), ?_⟩
  obtain ⟨lv, ex, elv⟩ := hD.x
  refine ⟨_, rfl, A.x, cEffects, A.dx, _, _, rfl, ex, T.cl _ mem_cEffects, T.no (cEffects, "seed") (by simp [noL]), rfl, _, rfl, s.seed, v, rfl, hw.s0, hw.s1, fun p np => ?_⟩
  have kp : Kp M0 H (upd H p (.tup [.int (if v < 1 then 0 else lateF s.seed / 16 % v), .int (if v < 1 then s.seed else lateF s.seed)])) := Kp.new np
  have ex1 := kp.keep _ _ ex id
  have hD1 := hD.kp0 kp
  refine ⟨p, _, rfl, SqT.of upd_same, rfl, _, _, rfl, _, _, rfl, _, rfl, A.x, cEffects, A.dx, _, rfl, ex1, T.cl _ mem_cEffects, T.no (cEffects, "seed") (by simp [noL]), (by show 14 < 1000; decide), rfl, ?_⟩
  obtain ⟨h1, h2⟩ := hD1.setX { s with seed := if v < 1 then s.seed else lateF s.seed } rfl rfl rfl rfl (lv := lv) (kp.tup _ _ elv)
  unfold oneF at k
  have kz := (kp.weak (M2 := Mp A) fun _ z => z.elim).trans h2
  by_cases z : v < 1
  · simp only [if_pos z] at k h1 kz ⊢
    exact ⟨_, rfl, k _ kz h1⟩
  · simp only [if_neg z] at k h1 kz ⊢
    exact ⟨_, rfl, k _ kz h1⟩
theorem scm_Effects_shove : FnScope ["self", "number", "across", "along", "at", "there", "kind", "x", "y", "dx", "dy", "owner", "cells", "speeds"] ["self", "number", "across", "along"] (defScope sm_Effects_shove) := ⟨rfl, rfl, rfl, by decide +kernel, rfl, by decide +kernel, by decide +kernel⟩
theorem ok_m_Effects_shove (T : Tx w K mg) : CalM P w K mg base cEffects "shove" 2 ["self", "number", "across", "along"] spShove := by
  obtain ⟨fd, F⟩ : ∃ fd, Fun K "shove" "Effects.shove" sm_Effects_shove 551 fd := T.fn 38 _ rfl
  refine T.calM F (T.me (cEffects, "shove", 551) (by simp [meL])) (fun _ _ _ _ _ _ us hl => match us, hl with | [_, _, _, _], _ => rfl) ?_
  refine F.ok scm_Effects_shove (fun vs H Q E h => ?_) (fun cdv A outer s H vs Q E hr h => ?_)
  · obtain ⟨A, c, s, n, a, b, rfl, _⟩ := h
    rfl
  obtain ⟨A, c, s, n, a, b, rfl, hD, hw, k⟩ := h
  refine ⟨_, (pss_cons (ps_set (i := 4) scm_Effects_shove.nd rfl (Or.inl rfl) (pe_k (ok_p_place_ofL T) (hr.mono (by decide)) (pa_cons (pe_fld (pv 0) rfl) (pa_cons (pv 1) pa_nil))))
    (pss_one (ps_if (pt_cmpR op_notN (pv 4) pe_non (nomark _)) (pss_cons (ps_asg (pe_ix ix_list (pe_fld (pv 0) rfl) (pv 4) (fun _ _ => rfl)) (pg_tup rfl (pgs_cons (pg_name (i := 5) scm_Effects_shove.nd rfl (Or.inl rfl)) (pgs_cons (pg_name (i := 6) scm_Effects_shove.nd rfl (Or.inl rfl)) (pgs_cons (pg_name (i := 7) scm_Effects_shove.nd rfl (Or.inl rfl)) (pgs_cons (pg_name (i := 8) scm_Effects_shove.nd rfl (Or.inl rfl)) (pgs_cons (pg_name (i := 9) scm_Effects_shove.nd rfl (Or.inl rfl)) (pgs_cons (pg_name (i := 10) scm_Effects_shove.nd rfl (Or.inl rfl)) (pgs_cons (pg_name (i := 11) scm_Effects_shove.nd rfl (Or.inl rfl)) (pgs_cons (pg_name (i := 12) scm_Effects_shove.nd rfl (Or.inl rfl)) pgs_nil))))))))))
    (pss_cons (ps_set (i := 13) scm_Effects_shove.nd rfl (Or.inl rfl) (pe_tup (pa_cons (pe_k (ok_p_nearer T) (hr.mono (by decide)) (pa_cons (pe_op op_add (pv 9) (pv 2)) (pa_cons (gc T 88 (.int (16)) rfl) pa_nil))) (pa_cons (pe_k (ok_p_nearer T) (hr.mono (by decide)) (pa_cons (pe_op op_add (pv 10) (pv 3)) (pa_cons (gc T 88 (.int (16)) rfl) pa_nil))) pa_nil))))
    (pss_one (ps_asg (pe_tup (pa_cons (pv 5) (pa_cons (pv 6) (pa_cons (pv 7) (pa_cons (pv 8) (pa_cons (pe_ix ix_tup (pv 13) pe_int (fun _ _ => rfl)) (pa_cons (pe_ix ix_tup (pv 13) pe_int (fun _ _ => rfl)) (pa_cons (pv 11) (pa_cons (pv 12) pa_nil))))))))) (pg_sub (pe_fld (pv 0) rfl) (pv 4) set_list))))) pss_nil))), ?_⟩
  obtain ⟨lv, ex, elv⟩ := hD.x
  obtain ⟨bv, b1, b2⟩ := hD.bo
  have hbl := b2.len
  refine ⟨_, rfl, A.x, cEffects, A.dx, _, _, rfl, ex, T.cl _ mem_cEffects, T.no (cEffects, "bodies") (by simp [noL]), rfl, _, rfl, A.bo, n, bv, s.bs, rfl, b1, b2, fun H1 kp1 => ⟨fun i bd eb hb hn => ?_, fun hn => ?_⟩⟩
  · obtain ⟨v, ev, t, cc, rfl, e1, e2⟩ := b2.get eb
    have hil := (List.getElem?_eq_some_iff.mp eb).1
    have hD1 := hD.kp0 kp1
    have ex1 := kp1.keep _ _ ex id
    have c1 := kp1.keep _ _ b1 id
    have e1' := kp1.tup _ _ e1
    refine ⟨_, rfl, rfl, _, rfl, hit (fun _ => ?_) (fun c => absurd c (by simp))⟩
    refine ⟨_, rfl, A.x, cEffects, A.dx, _, _, rfl, ex1, T.cl _ mem_cEffects, T.no (cEffects, "bodies") (by simp [noL]), rfl, _, rfl, A.bo, _, _, _, rfl, rfl, SqL.of c1, atI_of rfl ev, t, _, rfl, SqT.of e1', rfl, _, _, rfl, _, _, rfl, _, _, rfl, _, _, rfl, _, _, rfl, _, _, rfl, _, _, rfl, _, _, rfl, rfl, ?_⟩
    refine ⟨_, rfl, _, rfl, _, _, rfl, rfl, bd.dx + a, rfl, _, rfl, _, rfl, _, _, rfl, rfl, bd.dy + b, rfl, (by show 2 ≤ sizeLine; decide), fun u nu => ?_⟩
    have ku : Kp M0 H1 (upd H1 u (.tup [.int (nearF (bd.dx + a)), .int (nearF (bd.dy + b))])) := Kp.new nu
    have eu : (upd H1 u (.tup [.int (nearF (bd.dx + a)), .int (nearF (bd.dy + b))])) u = some (.tup [.int (nearF (bd.dx + a)), .int (nearF (bd.dy + b))]) := upd_same
    have hD2 := hD1.kp0 ku
    have ex2 := ku.keep _ _ ex1 id
    have c2 := ku.keep _ _ c1 id
    have e2' := ku.tup _ _ (kp1.tup _ _ e2)
    have k12 := kp1.trans ku
    refine ⟨_, rfl, _, rfl, _, rfl, _, rfl, _, rfl, u, _, 0, _, rfl, rfl, SqT.of eu, rfl, _, rfl, u, _, 1, _, rfl, rfl, SqT.of eu, rfl, _, rfl, _, rfl, (by show 8 ≤ sizeLine; decide), fun q nq => ?_⟩
    have kq := Kp.new (M := M0) (o := .tup (blV { bd with dx := nearF (bd.dx + a), dy := nearF (bd.dy + b) } cc)) nq
    have hD3 := hD2.kp0 kq
    have ex3 := kq.keep _ _ ex2 id
    refine ⟨_, rfl, A.x, cEffects, A.dx, _, _, rfl, ex3, T.cl _ mem_cEffects, T.no (cEffects, "bodies") (by simp [noL]), rfl, _, rfl, A.bo, bv, _, i, rfl, rfl, kq.keep _ _ c2 id, ?_, ?_⟩
    · unfold ixN
      rw [if_pos (by omega), if_pos (by rw [hbl]; omega), Int.toNat_natCast]
    · obtain ⟨h1, h2⟩ := hD3.setBo (vs := bv.set i (.ref q)) (bs := s.bs.set i { bd with dx := nearF (bd.dx + a), dy := nearF (bd.dy + b) }) (All2.set ⟨q, cc, rfl, upd_same, kq.tup _ _ e2'⟩ _ (b2.mono fun _ _ r => (r.kp k12).kp kq))
      refine k _ (((k12.trans kq).weak fun _ z => z.elim).trans h2) ?_
      unfold pushF
      rw [push_at hw.bs.asc eb hb]
      exact h1
  · refine ⟨_, rfl, rfl, _, rfl, hit (fun c => absurd c (by decide)) (fun _ => ?_)⟩
    refine k _ (kp1.weak fun _ z => z.elim) ?_
    unfold pushF
    rw [push_no hn]
    exact hD.kp0 kp1
theorem scm_Effects_go : FnScope ["self"] ["self"] (defScope sm_Effects_go) := ⟨rfl, rfl, rfl, by decide +kernel, rfl, by decide +kernel, by decide +kernel⟩
theorem ok_m_Effects_go (T : Tx w K mg) : CalM P w K mg base cEffects "go" 1 ["self"] spGoP := by
  obtain ⟨fd, F⟩ : ∃ fd, Fun K "go" "Effects.go" sm_Effects_go 558 fd := T.fn 39 _ rfl
  refine T.calM F (T.me (cEffects, "go", 558) (by simp [meL])) (fun _ _ _ _ _ _ us hl => match us, hl with | [_], _ => rfl) ?_
  refine F.ok scm_Effects_go (fun vs H Q E h => ?_) (fun cdv A outer s H vs Q E hr h => ?_)
  · obtain ⟨A, c, s, rfl, _⟩ := h
    rfl
  obtain ⟨A, c, s, rfl, hD, hc, k⟩ := h
  refine ⟨_, (pss_one (ps_fld (pv 0) (pe_callTy call_tuple_of rfl (fr_tuple T) (by decide +kernel) (pa_cons (pe_callB (cr_sortedSet rfl) rfl (fr_sorted T) (by decide +kernel) (pa_cons (pe_callTy (call_set_ints rfl) rfl (fr_set T) (by decide +kernel) (pa_cons (pe_op op_catA (pe_fld (pv 0) rfl) (pe_tup (pa_cons (pe_fld (pv 0) rfl) pa_nil))) pa_nil)) pa_nil)) pa_nil)) rfl)), ?_⟩
  obtain ⟨lv, ex, elv⟩ := hD.x
  have hlen : (lvS c s).length ≤ 21 := by
    have h1 := hc.ll
    have h2 := insF_len c.num c.lv0
    unfold lvS
    split <;> omega
  refine ⟨_, rfl, A.x, cEffects, A.dx, _, _, rfl, ex, T.cl _ mem_cEffects, T.no (cEffects, "leaving") (by simp [noL]), rfl, _, rfl, A.x, cEffects, A.dx, _, _, rfl, ex, T.cl _ mem_cEffects, T.no (cEffects, "number") (by simp [noL]), rfl, (by show 1 ≤ sizeLine; decide), fun q nq => ?_⟩
  have kq : Kp M0 H (upd H q (.tup [.int c.num])) := Kp.new nq
  have eq : (upd H q (.tup [.int c.num])) q = some (.tup [.int c.num]) := upd_same
  have elv1 := kq.tup _ _ elv
  have hD1 := hD.kp0 kq
  generalize upd H q (.tup [.int c.num]) = H1 at kq eq elv1 hD1
  refine ⟨lv, q, _, _, rfl, rfl, SqT.of elv1, SqT.of eq, (by rw [List.length_map]; show (lvS c s).length + 1 ≤ sizeLine; exact Nat.le_trans (show _ ≤ 22 by omega) (by decide)), fun z => ?_, (fun _ z => by cases z), fun _ _ p np => ?_⟩
  · have z' : lvS c s = [] := List.map_eq_nil_iff.mp z
    have et : H1 q = some (.tup ((lvS c s ++ [c.num]).map V.int)) := by rw [z']; exact eq
    have hDt := hD1
    have kt := kq
    have hlt : (lvS c s ++ [c.num]).length ≤ 22 := by rw [List.length_append]; show _ + 1 ≤ 22; omega
    refine ⟨q, lvS c s ++ [c.num], rfl, SqT.of et, Nat.lt_of_le_of_lt (show (lvS c s ++ [c.num]).length + 1 ≤ 23 by omega) (by decide), fun l cc nl hcc => ?_⟩
    have kl : Kp M0 H1 (upd H1 l (SetO w l (fun j => decide (j ∈ lvS c s ++ [c.num])) cc)) := Kp.new nl
    refine ⟨l, _, cc, rfl, upd_same, by omega, fun ns p2 hasc hmem hlen2 np2 => ?_⟩
    have ens := go_is hc hasc (fun k => (hmem k).trans decide_eq_true_iff)
    subst ens
    refine ⟨p2, _, rfl, .inl ⟨SqL.of upd_same, fun t2 nt2 => ?_⟩⟩
    have kz := kl.trans ((Kp.new (M := M0) np2).trans (Kp.new (M := M0) (o := .tup ((lvS c { s with gone := true }).map V.int)) nt2))
    have hDz := hDt.kp0 kz
    refine ⟨_, rfl, A.x, cEffects, A.dx, _, rfl, kz.keep _ _ (kt.keep _ _ ex id) id, T.cl _ mem_cEffects, T.no (cEffects, "leaving") (by simp [noL]), (by show 14 < 1000; decide), ?_⟩
    obtain ⟨h1, h2⟩ := hDz.setX { s with gone := true } rfl rfl rfl rfl (lv := t2) upd_same
    exact k _ (((kt.trans kz).weak fun _ z => z.elim).trans h2) h1
  · have kp := Kp.new (M := M0) (o := .tup ((lvS c s).map V.int ++ [.int c.num])) np
    have et : (upd H1 p (.tup ((lvS c s).map V.int ++ [.int c.num]))) p = some (.tup ((lvS c s ++ [c.num]).map V.int)) := by rw [upd_same, List.map_append]; rfl
    have hDt := hD1.kp0 kp
    have kt := kq.trans kp
    generalize upd H1 p (.tup ((lvS c s).map V.int ++ [.int c.num])) = H2 at et hDt kt
    have hlt : (lvS c s ++ [c.num]).length ≤ 22 := by rw [List.length_append]; show _ + 1 ≤ 22; omega
    refine ⟨p, lvS c s ++ [c.num], rfl, SqT.of et, Nat.lt_of_le_of_lt (show (lvS c s ++ [c.num]).length + 1 ≤ 23 by omega) (by decide), fun l cc nl hcc => ?_⟩
    have kl : Kp M0 H2 (upd H2 l (SetO w l (fun j => decide (j ∈ lvS c s ++ [c.num])) cc)) := Kp.new nl
    refine ⟨l, _, cc, rfl, upd_same, by omega, fun ns p2 hasc hmem hlen2 np2 => ?_⟩
    have ens := go_is hc hasc (fun k => (hmem k).trans decide_eq_true_iff)
    subst ens
    refine ⟨p2, _, rfl, .inl ⟨SqL.of upd_same, fun t2 nt2 => ?_⟩⟩
    have kz := kl.trans ((Kp.new (M := M0) np2).trans (Kp.new (M := M0) (o := .tup ((lvS c { s with gone := true }).map V.int)) nt2))
    have hDz := hDt.kp0 kz
    refine ⟨_, rfl, A.x, cEffects, A.dx, _, rfl, kz.keep _ _ (kt.keep _ _ ex id) id, T.cl _ mem_cEffects, T.no (cEffects, "leaving") (by simp [noL]), (by show 14 < 1000; decide), ?_⟩
    obtain ⟨h1, h2⟩ := hDz.setX { s with gone := true } rfl rfl rfl rfl (lv := t2) upd_same
    exact k _ (((kt.trans kz).weak fun _ z => z.elim).trans h2) h1
end
end G
set_option Elab.async false
set_option linter.all false
set_option maxRecDepth 100000
set_option maxHeartbeats 4000000
namespace G
open PySem PySem.Spec PyProof.Rows L2
def spAskP : Sp := fun vs H Q _ => ∃ (A : PA) (c : Cfg) (s : S) (w : W1) (n : Int), vs = [.ref A.x, .str w.str, .int n] ∧ PD H A c s ∧ (w = .kind ∨ w = .left ∨ w = .top) ∧ ∀ H', Kp M0 H H' → Q (.int (toldF s w n)) H'
def spByOne : Sp := fun vs H Q _ => ∃ (A : PA) (c : Cfg) (s : S) (w : W1) (v : Int), vs = [.ref A.x, .str w.str, .int v] ∧ PD H A c s ∧ WfS c s ∧ WfC c ∧ ∀ H', Kp (Mp A) H H' → PD H' A c (oneF c s w v).2 → Q (.int (oneF c s w v).1) H'
def spByTwo : Sp := fun vs H Q _ => ∃ (A : PA) (c : Cfg) (s : S) (w : W2) (a b : Int), vs = [.ref A.x, .str w.str, .int a, .int b] ∧ PD H A c s ∧ WfC c ∧ Sml a ∧ Sml b ∧ Q (.int (twoF c w a b)) H
def spValP (n : Nat) : Sp := fun vs H Q _ => ∃ (A : PA) (c : Cfg) (s : S) (v : V) (e : Ex), vs = [.ref A.x, v] ∧ PD H A c s ∧ WfS c s ∧ WfC c ∧ ExAt H e v ∧ e.ok ∧ e.dp ≤ n ∧ ∀ H', Kp (Mp A) H H' → PD H' A c (evE c e s).2 → Q (.int (evE c e s).1) H'
section
variable {P : Program} {w : World} {K : PySem.W.Frag} {mg : Str → Option Value} {base : Heap}
theorem scp_asked_of_body : FnScope ["effects", "word", "number", "body"] ["effects", "word", "number"] (defScope sp_asked_of_body) := ⟨rfl, rfl, rfl, by decide +kernel, rfl, by decide +kernel, by decide +kernel⟩
theorem ok_p_asked_of_body (T : Tx w K mg) : Cal P w K mg base "asked_of_body" 3 ["effects", "word", "number"] spAskP := by
  obtain ⟨fd, F⟩ : ∃ fd, Fun K "asked_of_body" "asked_of_body" sp_asked_of_body 621 fd := T.fn 47 _ rfl
  refine T.cal F 106 rfl (fun _ _ _ _ _ _ us hl => match us, hl with | [_, _, _], _ => rfl) ?_
  refine F.ok scp_asked_of_body (fun vs H Q E h => ?_) (fun cdv A outer s H vs Q E hr h => ?_)
  · obtain ⟨A, c, s, w, n, rfl, _⟩ := h
    rfl
  obtain ⟨A, c, s, w, n, rfl, hD, hw, k⟩ := h
  unfold toldF at k
  refine ⟨_, (pss_cons (ps_set (i := 3) scp_asked_of_body.nd rfl (Or.inl rfl) (pe_m (ok_m_Effects_body_of T) (T.cl cEffects mem_cEffects) (hr.mono (by decide)) (pv 0) (pa_cons (pv 2) pa_nil)))
    (pss_cons (ps_if (pt_cmpR op_eq (pv 1) pe_str (nomark _)) (pss_one (ps_ret (pe_ifExp (pt_cmpR op_isN (pv 3) pe_non (nomark _)) (pe_un un_neg pe_int) (pe_ix ix_tup (pv 3) pe_int (fun _ _ => rfl))))) pss_nil)
    (pss_cons (ps_if (pt_cmpR op_isN (pv 3) pe_non (nomark _)) (pss_one (ps_ret pe_int)) pss_nil)
    (pss_one (ps_ret (pe_ifExp (pt_cmpR op_eq (pv 1) pe_str (nomark _)) (pe_ix ix_tup (pv 3) pe_int (fun _ _ => rfl)) (pe_ix ix_tup (pv 3) pe_int (fun _ _ => rfl)))))))), ?_⟩
  obtain ⟨lv, ex, elv⟩ := hD.x
  refine ⟨_, rfl, A.x, A.dx, _, rfl, ex, rfl, _, rfl, A, c, s, n, rfl, hD, fun v H' kp hb => ?_⟩
  cases q : s.bs.find? (fun b => decide (b.num = n)) with
  | none =>
    rw [q] at hb
    cases (show v = .non from hb)
    simp only [q] at k
    rcases hw with rfl | rfl | rfl
    · exact ⟨_, rfl, rfl, _, rfl, hit (fun _ => ⟨_, rfl, rfl, _, rfl, iteT ⟨_, rfl, k _ kp⟩⟩) (fun c => absurd c (by decide +kernel))⟩
    · exact ⟨_, rfl, rfl, _, rfl, hit (fun c => absurd c (by decide +kernel)) (fun _ => ⟨_, rfl, rfl, _, rfl, iteT (k _ kp)⟩)⟩
    · exact ⟨_, rfl, rfl, _, rfl, hit (fun c => absurd c (by decide +kernel)) (fun _ => ⟨_, rfl, rfl, _, rfl, iteT (k _ kp)⟩)⟩
  | some b =>
    rw [q] at hb
    obtain ⟨t, cc, rfl, e1, e2⟩ := hb
    simp only [q] at k
    rcases hw with rfl | rfl | rfl
    · exact ⟨_, rfl, rfl, _, rfl, hit (fun _ => ⟨_, rfl, rfl, _, rfl, hit (fun c => nomatch of_decide_eq_true c) (fun _ => ⟨_, rfl, t, _, 1, _, rfl, rfl, SqT.of e1, rfl, k _ kp⟩)⟩) (fun c => absurd c (by decide +kernel))⟩
    · refine ⟨_, rfl, rfl, _, rfl, hit (fun c => absurd c (by decide +kernel)) (fun _ => ⟨_, rfl, rfl, _, rfl, hit (fun c => nomatch of_decide_eq_true c) (fun _ => ?_)⟩)⟩
      exact ⟨_, rfl, rfl, _, rfl, hit (fun _ => ⟨_, rfl, t, _, 2, _, rfl, rfl, SqT.of e1, rfl, k _ kp⟩) (fun c => absurd c (by decide +kernel))⟩
    · refine ⟨_, rfl, rfl, _, rfl, hit (fun c => absurd c (by decide +kernel)) (fun _ => ⟨_, rfl, rfl, _, rfl, hit (fun c => nomatch of_decide_eq_true c) (fun _ => ?_)⟩)⟩
      exact ⟨_, rfl, rfl, _, rfl, hit (fun c => absurd c (by decide +kernel)) (fun _ => ⟨_, rfl, t, _, 3, _, rfl, rfl, SqT.of e1, rfl, k _ kp⟩)⟩
theorem scp_by_one : FnScope ["effects", "word", "value"] ["effects", "word", "value"] (defScope sp_by_one) := ⟨rfl, rfl, rfl, by decide +kernel, rfl, by decide +kernel, by decide +kernel⟩
theorem ok_p_by_one (T : Tx w K mg) : Cal P w K mg base "by_one" 4 ["effects", "word", "value"] spByOne := by
  obtain ⟨fd, F⟩ : ∃ fd, Fun K "by_one" "by_one" sp_by_one 628 fd := T.fn 48 _ rfl
  refine T.cal F 107 rfl (fun _ _ _ _ _ _ us hl => match us, hl with | [_, _, _], _ => rfl) ?_
  refine F.ok scp_by_one (fun vs H Q E h => ?_) (fun cdv A outer s H vs Q E hr h => ?_)
  · obtain ⟨A, c, s, w, v, rfl, _⟩ := h
    rfl
  obtain ⟨A, c, s, w, v, rfl, hD, hw, hc, k⟩ := h
  refine ⟨_, (pss_cons (ps_if (pt_cmpR op_in_seq (pv 1) (gc T 49 (.ref 229) rfl) (by rfl)) (pss_one (ps_ret (pe_k (ok_p_of_one T) (hr.mono (by decide)) (pa_cons (pv 1) (pa_cons (pv 2) pa_nil))))) pss_nil)
    (pss_cons (ps_if (pt_cmpR op_eq (pv 1) pe_str (nomark _)) (pss_one (ps_ret (pe_m (ok_m_Effects_draw T) (T.cl cEffects mem_cEffects) (hr.mono (by decide)) (pv 0) (pa_cons (pv 2) pa_nil)))) pss_nil)
    (pss_cons (ps_if (pt_cmpR op_eq (pv 1) pe_str (nomark _)) (pss_one (ps_ret (pe_k (ok_p_power_bit T) (hr.mono (by decide)) (pa_cons (pe_m0 (ok_m_Effects_buttons T) (T.cl cEffects mem_cEffects) (hr.mono (by decide)) (pv 0)) (pa_cons (pv 2) pa_nil))))) pss_nil)
    (pss_one (ps_ret (pe_k (ok_p_asked_of_body T) (hr.mono (by decide)) (pa_cons (pv 0) (pa_cons (pv 1) (pa_cons (pv 2) pa_nil))))))))), ?_⟩
  obtain ⟨lv, ex, elv⟩ := hD.x
  cases w with
  | not => exact ⟨_, rfl, 229, _, rfl, .inr (T.sqT mem_cones H), rfl, flat_strs _, _, rfl, hit (fun _ => ⟨_, rfl, _, rfl, c, s, .not, v, rfl, .inl rfl, k _ Kp.rfl hD⟩) (fun c => absurd c (by decide +kernel))⟩
  | minus => exact ⟨_, rfl, 229, _, rfl, .inr (T.sqT mem_cones H), rfl, flat_strs _, _, rfl, hit (fun _ => ⟨_, rfl, _, rfl, c, s, .minus, v, rfl, .inr rfl, k _ Kp.rfl hD⟩) (fun c => absurd c (by decide +kernel))⟩
  | draw =>
    refine ⟨_, rfl, 229, _, rfl, .inr (T.sqT mem_cones H), rfl, flat_strs _, _, rfl, hit (fun c => absurd c (by decide +kernel)) (fun _ => ?_)⟩
    exact ⟨_, rfl, rfl, _, rfl, hit (fun _ => ⟨_, rfl, A.x, A.dx, _, rfl, ex, rfl, _, rfl, A, c, s, v, rfl, hD, hw, k⟩) (fun c => absurd c (by decide +kernel))⟩
  | press =>
    refine ⟨_, rfl, 229, _, rfl, .inr (T.sqT mem_cones H), rfl, flat_strs _, _, rfl, hit (fun c => absurd c (by decide +kernel)) (fun _ => ?_)⟩
    refine ⟨_, rfl, rfl, _, rfl, hit (fun c => absurd c (by decide +kernel)) (fun _ => ?_)⟩
    exact ⟨_, rfl, rfl, _, rfl, hit (fun _ => ⟨_, rfl, A.x, A.dx, _, rfl, ex, rfl, A, c, s, rfl, hD, hw, hc, _, rfl, butF c s, v, rfl, k _ Kp.rfl hD⟩) (fun c => absurd c (by decide +kernel))⟩
  | kind =>
    refine ⟨_, rfl, 229, _, rfl, .inr (T.sqT mem_cones H), rfl, flat_strs _, _, rfl, hit (fun c => absurd c (by decide +kernel)) (fun _ => ?_)⟩
    refine ⟨_, rfl, rfl, _, rfl, hit (fun c => absurd c (by decide +kernel)) (fun _ => ?_)⟩
    refine ⟨_, rfl, rfl, _, rfl, hit (fun c => absurd c (by decide +kernel)) (fun _ => ?_)⟩
    exact ⟨_, rfl, _, rfl, _, rfl, A, c, s, .kind, v, rfl, hD, .inl rfl, fun H' kp => k _ (kp.weak fun _ z => z.elim) (hD.kp0 kp)⟩
  | left =>
    refine ⟨_, rfl, 229, _, rfl, .inr (T.sqT mem_cones H), rfl, flat_strs _, _, rfl, hit (fun c => absurd c (by decide +kernel)) (fun _ => ?_)⟩
    refine ⟨_, rfl, rfl, _, rfl, hit (fun c => absurd c (by decide +kernel)) (fun _ => ?_)⟩
    refine ⟨_, rfl, rfl, _, rfl, hit (fun c => absurd c (by decide +kernel)) (fun _ => ?_)⟩
    exact ⟨_, rfl, _, rfl, _, rfl, A, c, s, .left, v, rfl, hD, .inr (.inl rfl), fun H' kp => k _ (kp.weak fun _ z => z.elim) (hD.kp0 kp)⟩
  | top =>
    refine ⟨_, rfl, 229, _, rfl, .inr (T.sqT mem_cones H), rfl, flat_strs _, _, rfl, hit (fun c => absurd c (by decide +kernel)) (fun _ => ?_)⟩
    refine ⟨_, rfl, rfl, _, rfl, hit (fun c => absurd c (by decide +kernel)) (fun _ => ?_)⟩
    refine ⟨_, rfl, rfl, _, rfl, hit (fun c => absurd c (by decide +kernel)) (fun _ => ?_)⟩
    exact ⟨_, rfl, _, rfl, _, rfl, A, c, s, .top, v, rfl, hD, .inr (.inr rfl), fun H' kp => k _ (kp.weak fun _ z => z.elim) (hD.kp0 kp)⟩
theorem scp_by_two : FnScope ["effects", "word", "one", "other"] ["effects", "word", "one", "other"] (defScope sp_by_two) := ⟨rfl, rfl, rfl, by decide +kernel, rfl, by decide +kernel, by decide +kernel⟩
theorem ok_p_by_two (T : Tx w K mg) : Cal P w K mg base "by_two" 4 ["effects", "word", "one", "other"] spByTwo := by
  obtain ⟨fd, F⟩ : ∃ fd, Fun K "by_two" "by_two" sp_by_two 635 fd := T.fn 49 _ rfl
  refine T.cal F 108 rfl (fun _ _ _ _ _ _ us hl => match us, hl with | [_, _, _, _], _ => rfl) ?_
  refine F.ok scp_by_two (fun vs H Q E h => ?_) (fun cdv A outer s H vs Q E hr h => ?_)
  · obtain ⟨A, c, s, w, a, b, rfl, _⟩ := h
    rfl
  obtain ⟨A, c, s, w, a, b, rfl, hD, hc, ha, hb, k⟩ := h
  refine ⟨_, (pss_cons (ps_if (pt_cmpR op_eq (pv 1) pe_str (nomark _)) (pss_one (ps_ret (pe_k (ok_p_mark_at T) (hr.mono (by decide)) (pa_cons (pe_fld (pe_fld (pv 0) rfl) rfl) (pa_cons (pv 2) (pa_cons (pv 3) pa_nil)))))) pss_nil)
    (pss_one (ps_ret (pe_k (ok_p_of_two T) (hr.mono (by decide)) (pa_cons (pv 1) (pa_cons (pv 2) (pa_cons (pv 3) pa_nil))))))), ?_⟩
  obtain ⟨lv, ex, elv⟩ := hD.x
  by_cases q : w = .cell
  · subst q
    exact ⟨_, rfl, rfl, _, rfl, hit (fun _ => ⟨_, rfl, A.x, cEffects, A.dx, _, _, rfl, ex, T.cl _ mem_cEffects, T.no (cEffects, "game") (by simp [noL]), rfl, A.g, cGame, _, _, _, rfl, hD.g, T.cl _ mem_cGame, T.no (cGame, "ground") (by simp [noL]), rfl, _, rfl, _, rfl, A.gr, c.rows, c.wd, a, b, rfl, hD.gr, hc.rows, k⟩) (fun c => absurd c (by decide +kernel))⟩
  · refine ⟨_, rfl, rfl, _, rfl, hit (fun z => ?_) (fun _ => ⟨_, rfl, _, rfl, _, rfl, c, w, a, b, rfl, q, ha, hb, k⟩)⟩
    exfalso
    revert z
    cases w <;> first | exact absurd rfl q | decide +kernel
theorem scp_value_of : FnScope ["effects", "expression", "word", "one"] ["effects", "expression"] (defScope sp_value_of) := ⟨rfl, rfl, rfl, by decide +kernel, rfl, by decide +kernel, by decide +kernel⟩
theorem ok_p_value_of1 {n : Nat} (B : Cal P w K mg base "value_of" (5 + n) ["effects", "expression"] (spValP n)) (T : Tx w K mg) : Cal P w K mg base "value_of" (5+n+1) ["effects", "expression"] (spValP (n+1)) := by
  obtain ⟨fd, F⟩ : ∃ fd, Fun K "value_of" "value_of" sp_value_of 642 fd := T.fn 50 _ rfl
  refine T.cal F 109 rfl (fun _ _ _ _ _ _ us hl => match us, hl with | [_, _], _ => rfl) ?_
  refine F.ok scp_value_of (fun vs H Q E h => ?_) (fun cdv A outer s H vs Q E hr h => ?_)
  · obtain ⟨A, c, s, v, e, rfl, _⟩ := h
    rfl
  obtain ⟨A, c, s, v, e, rfl, hD, hw, hc, hx, hok, hd, k⟩ := h
  refine ⟨_, (pss_cons (ps_set (i := 2) scp_value_of.nd rfl (Or.inl rfl) (pe_ix ix_tup (pv 1) pe_int (fun _ _ => rfl)))
    (pss_cons (ps_if (pt_cmpR op_eq (pv 2) (gc T 42 (.str "number") rfl) (nomark _)) (pss_one (ps_ret (pe_ix ix_tup (pv 1) pe_int (fun _ _ => rfl)))) pss_nil)
    (pss_cons (ps_if (pt_cmpR op_eq (pv 2) (gc T 43 (.str "name") rfl) (nomark _)) (pss_one (ps_ret (pe_k (ok_p_small T) (hr.mono (by omega)) (pa_cons (pe_m (ok_m_Effects_load T) (T.cl cEffects mem_cEffects) (hr.mono (by omega)) (pv 0) (pa_cons (pe_ix ix_tup (pv 1) pe_int (fun _ _ => rfl)) pa_nil)) pa_nil)))) pss_nil)
    (pss_cons (ps_set (i := 3) scp_value_of.nd rfl (Or.inl rfl) (pe_k B (hr.mono (by omega)) (pa_cons (pv 0) (pa_cons (pe_ix ix_tup (pv 1) pe_int (fun _ _ => rfl)) pa_nil))))
    (pss_cons (ps_if (pt_cmpR op_eq (pe_callB call_len_seq rfl (fr_len T) (by decide +kernel) (pa_cons (pv 1) pa_nil)) pe_int (nomark _)) (pss_one (ps_ret (pe_k (ok_p_by_one T) (hr.mono (by omega)) (pa_cons (pv 0) (pa_cons (pv 2) (pa_cons (pv 3) pa_nil)))))) pss_nil)
    (pss_one (ps_ret (pe_k (ok_p_by_two T) (hr.mono (by omega)) (pa_cons (pv 0) (pa_cons (pv 2) (pa_cons (pv 3) (pa_cons (pe_k B (hr.mono (by omega)) (pa_cons (pv 0) (pa_cons (pe_ix ix_tup (pv 1) pe_int (fun _ _ => rfl)) pa_nil))) pa_nil)))))))))))), ?_⟩
  obtain ⟨lv, ex, elv⟩ := hD.x
  cases e with
  | num m =>
    obtain ⟨a, rfl, et⟩ := hx
    refine ⟨_, rfl, a, _, 0, _, rfl, rfl, SqT.of et, rfl, ?_⟩
    refine ⟨_, rfl, rfl, _, rfl, hit (fun _ => ?_) (fun c => absurd c (by decide +kernel))⟩
    exact ⟨_, rfl, a, _, 1, _, rfl, rfl, SqT.of et, rfl, k _ Kp.rfl hD⟩
  | nam m =>
    obtain ⟨a, rfl, et⟩ := hx
    refine ⟨_, rfl, a, _, 0, _, rfl, rfl, SqT.of et, rfl, ?_⟩
    refine ⟨_, rfl, rfl, _, rfl, hit (fun c => absurd c (by decide +kernel)) (fun _ => ?_)⟩
    refine ⟨_, rfl, rfl, _, rfl, hit (fun _ => ?_) (fun c => absurd c (by decide +kernel))⟩
    exact ⟨_, rfl, A.x, A.dx, _, rfl, ex, rfl, _, rfl, a, _, 1, _, rfl, rfl, SqT.of et, rfl, A, c, s, m, rfl, hD, hw, hc, hok, fun H' kp => ⟨_, rfl, k _ (kp.weak fun _ z => z.elim) (hD.kp0 kp)⟩⟩
  | one m e =>
    obtain ⟨a, x, rfl, et, h1⟩ := hx
    simp only [Ex.dp] at hd
    refine ⟨_, rfl, a, _, 0, _, rfl, rfl, SqT.of et, rfl, ?_⟩
    refine ⟨_, rfl, rfl, _, rfl, hit (fun c => absurd c (by cases m <;> decide +kernel)) (fun _ => ?_)⟩
    refine ⟨_, rfl, rfl, _, rfl, hit (fun c => absurd c (by cases m <;> decide +kernel)) (fun _ => ?_)⟩
    refine ⟨_, rfl, _, rfl, a, _, 1, _, rfl, rfl, SqT.of et, rfl, A, c, s, x, e, rfl, hD, hw, hc, h1, hok, by omega, fun H1 kp1 hD1 => ?_⟩
    have et1 := kp1.tup _ _ et
    refine ⟨_, rfl, a, _, rfl, .inr (SqT.of et1), rfl, _, rfl, iteT ?_⟩
    exact ⟨_, rfl, _, rfl, _, rfl, A, c, _, m, _, rfl, hD1, (evE_wf e hw).1, hc, fun H2 kp2 hD2 => k _ (kp1.trans kp2) hD2⟩
  | two m e g =>
    obtain ⟨a, x, y, rfl, et, h1, h2⟩ := hx
    simp only [Ex.dp] at hd
    refine ⟨_, rfl, a, _, 0, _, rfl, rfl, SqT.of et, rfl, ?_⟩
    refine ⟨_, rfl, rfl, _, rfl, hit (fun c => absurd c (by cases m <;> decide +kernel)) (fun _ => ?_)⟩
    refine ⟨_, rfl, rfl, _, rfl, hit (fun c => absurd c (by cases m <;> decide +kernel)) (fun _ => ?_)⟩
    refine ⟨_, rfl, _, rfl, a, _, 1, _, rfl, rfl, SqT.of et, rfl, A, c, s, x, e, rfl, hD, hw, hc, h1, hok.1, by omega, fun H1 kp1 hD1 => ?_⟩
    have et1 := kp1.tup _ _ et
    have hw1 := (evE_wf e hw).1
    refine ⟨_, rfl, a, _, rfl, .inr (SqT.of et1), rfl, _, rfl, iteF ?_⟩
    refine ⟨_, rfl, _, rfl, _, rfl, _, rfl, _, rfl, a, _, 2, _, rfl, rfl, SqT.of et1, rfl, A, c, _, y, g, rfl, hD1, hw1, hc, h2.kp kp1, hok.2, by omega, fun H2 kp2 hD2 => ?_⟩
    exact ⟨A, c, _, m, _, _, rfl, hD2, hc, evE_sml hc e hw hok.1, evE_sml hc g hw1 hok.2, k _ (kp1.trans kp2) hD2⟩
theorem ok_p_value_of (T : Tx w K mg) : ∀ n : Nat, Cal P w K mg base "value_of" (5 + n) ["effects", "expression"] (spValP n)
  | 0 => by
    obtain ⟨fd, F⟩ : ∃ fd, Fun K "value_of" "value_of" sp_value_of 642 fd := T.fn 50 _ rfl
    exact T.cal F 109 rfl (fun _ _ _ _ _ _ us hl => match us, hl with | [_, _], _ => rfl) (fnok_none fun vs H Q E h => by
      obtain ⟨A, c, s, v, e, _, _, _, _, _, _, d2, _⟩ := h
      have := e.dp_pos
      omega)
  | n + 1 => (ok_p_value_of1 (ok_p_value_of T n) T).mono (by omega)
end
end G
set_option Elab.async false
set_option linter.all false
set_option maxRecDepth 100000
set_option maxHeartbeats 4000000
namespace G
open PySem PySem.Spec PyProof.Rows L2
theorem PD.outA {H : Hp} {A : PA} {c : Cfg} {s : S} {p : Addr} (h : PD H A c s) (n : H p = none) : p ∉ A.all := fun m => by
  simp only [PA.all, List.mem_cons, List.not_mem_nil, or_false] at m
  rcases m with z | z | z | z | z | z | z
  · exact h.out n (.inl z)
  · exact h.out n (.inr (.inl z))
  · exact h.out n (.inr (.inr (.inl z)))
  · exact h.out n (.inr (.inr (.inr (.inl z))))
  · exact h.out n (.inr (.inr (.inr (.inr z))))
  · rw [z, h.g] at n; cases n
  · obtain ⟨dx, t, e, _⟩ := h.gr
    rw [z, e] at n; cases n
def spPlain : Sp := fun vs H Q _ => ∃ (A : PA) (c : Cfg) (s s' : S) (v : V) (x : Sm), vs = [.ref A.x, v] ∧ PD H A c s ∧ WfS c s ∧ WfC c ∧ SmAt H x v ∧ x.ok ∧ plF c x s = some s' ∧ ∀ H', Kp (Mp A) H H' → PD H' A c s' → Q .non H'
def spBodyP (n : Nat) : Sp := fun vs H Q _ => ∃ (A : PA) (c : Cfg) (s : S) (v : V) (l : List Sm), vs = [.ref A.x, v] ∧ PD H A c s ∧ WfS c s ∧ WfC c ∧ BtAt H v l ∧ oks l ∧ bds l ≤ n ∧
  ∀ b s' H', Runs c (.body l) s b s' → Kp (Mp A) H H' → PD H' A c s' → Q (.bl b) H'
def spStmP (n : Nat) : Sp := fun vs H Q _ => ∃ (A : PA) (c : Cfg) (s : S) (v : V) (x : Sm), vs = [.ref A.x, v] ∧ PD H A c s ∧ WfS c s ∧ WfC c ∧ SmAt H x v ∧ x.ok ∧ x.bd ≤ n ∧
  ∀ b s' H', Runs c (.stm x) s b s' → Kp (Mp A) H H' → PD H' A c s' → Q (.bl b) H'
def spWhileP (n : Nat) : Sp := fun vs H Q _ => ∃ (A : PA) (c : Cfg) (s : S) (v : V) (e : Ex) (l : List Sm), vs = [.ref A.x, v] ∧ PD H A c s ∧ WfS c s ∧ WfC c ∧ SmAt H (.whl e l) v ∧ e.fit ∧ oks l ∧ bds l ≤ n ∧
  ∀ b s' H', Runs c (.rnd e l) s b s' → Kp (Mp A) H H' → PD H' A c s' → Q (.bl b) H'
section
variable {P : Program} {w : World} {K : PySem.W.Frag} {mg : Str → Option Value} {base : Heap}
theorem scp_do_plain : FnScope ["effects", "statement", "word", "values", "part"] ["effects", "statement"] (defScope sp_do_plain) := ⟨rfl, rfl, rfl, by decide +kernel, rfl, by decide +kernel, by decide +kernel⟩
theorem ok_p_do_plain (T : Tx w K mg) : Cal P w K mg base "do_plain" 16 ["effects", "statement"] spPlain := by
  obtain ⟨fd, F⟩ : ∃ fd, Fun K "do_plain" "do_plain" sp_do_plain 647 fd := T.fn 51 _ rfl
  refine T.cal F 110 rfl (fun _ _ _ _ _ _ us hl => match us, hl with | [_, _], _ => rfl) ?_
  refine F.ok scp_do_plain (fun vs H Q E h => ?_) (fun cdv A outer s H vs Q E hr h => ?_)
  · obtain ⟨A, c, s, s', v, x, rfl, _⟩ := h
    rfl
  obtain ⟨A, c, s, s', v, x, rfl, hD, hw, hc, hx, hok, hp, k⟩ := h
  refine ⟨_, (pss_cons (ps_set (i := 2) scp_do_plain.nd rfl (Or.inl rfl) (pe_ix ix_tup (pv 1) pe_int (fun _ _ => rfl)))
    (pss_one (ps_if (pt_cmpR op_eq (pv 2) (gc T 53 (.str "set") rfl) (nomark _)) (pss_one (ps_expr (pe_m (ok_m_Effects_store T) (T.cl cEffects mem_cEffects) (hr.mono (by decide)) (pv 0) (pa_cons (pe_ix ix_tup (pv 1) pe_int (fun _ _ => rfl)) (pa_cons (pe_k (ok_p_value_of T 10) (hr.mono (by decide)) (pa_cons (pv 0) (pa_cons (pe_ix ix_tup (pv 1) pe_int (fun _ _ => rfl)) pa_nil))) pa_nil))))) (pss_one (ps_if (pt_cmpR op_eq (pv 2) (gc T 56 (.str "gone") rfl) (nomark _)) (pss_one (ps_expr (pe_m0 (ok_m_Effects_go T) (T.cl cEffects mem_cEffects) (hr.mono (by decide)) (pv 0)))) (pss_one (ps_if (pt_cmpR op_eq (pv 2) (gc T 57 (.str "say") rfl) (nomark _)) (pss_one (ps_expr (pe_m (ok_m_Effects_say T) (T.cl cEffects mem_cEffects) (hr.mono (by decide)) (pv 0) (pa_cons (pe_k (ok_p_value_of T 10) (hr.mono (by decide)) (pa_cons (pv 0) (pa_cons (pe_ix ix_tup (pv 1) pe_int (fun _ _ => rfl)) pa_nil))) pa_nil)))) (pss_cons (ps_setLc (i := 3) (own := [("part", 4)]) (g := gName 4) (by rfl) scp_do_plain.nd rfl rfl (sw_true rfl rfl rfl (by decide +kernel)) (pi_tup (pe_slice sl_tupA (pv 1) (po_some (pe_un un_neg pe_int)) po_none)) (blkOk_by (own := [("part", 4)]) (N := ["effects", "statement", "word", "values", "part"]) (sc := defScope sp_do_plain) (by decide +kernel)) (fun _ _ _ _ _ => pg_name (i := 4) scp_do_plain.nd rfl (Or.inl rfl)) (fun _ _ _ _ _ => pts_nil) (fun _ _ _ _ _ => (pe_k (ok_p_value_of T 10) (hr.mono (by decide)) (pa_cons (pv 0) (pa_cons (pv 4) pa_nil)))))
    (pss_one (ps_if (pt_cmpR op_eq (pv 2) (gc T 54 (.str "make") rfl) (nomark _)) (pss_one (ps_expr (pe_m (ok_m_Effects_make T) (T.cl cEffects mem_cEffects) (hr.mono (by decide)) (pv 0) (pa_cons (pe_ix ix_tup (pv 1) pe_int (fun _ _ => rfl)) (pa_cons (pe_ix ix_list (pv 3) pe_int (fun _ _ => rfl)) (pa_cons (pe_ix ix_list (pv 3) pe_int (fun _ _ => rfl)) (pa_cons (pe_ix ix_list (pv 3) pe_int (fun _ _ => rfl)) pa_nil))))))) (pss_one (ps_if (pt_cmpR op_eq (pv 2) (gc T 55 (.str "push") rfl) (nomark _)) (pss_one (ps_expr (pe_m (ok_m_Effects_shove T) (T.cl cEffects mem_cEffects) (hr.mono (by decide)) (pv 0) (pa_cons (pe_ix ix_list (pv 3) pe_int (fun _ _ => rfl)) (pa_cons (pe_ix ix_list (pv 3) pe_int (fun _ _ => rfl)) (pa_cons (pe_ix ix_list (pv 3) pe_int (fun _ _ => rfl)) pa_nil)))))) pss_nil)))))))))))), ?_⟩
  obtain ⟨lv, ex, elv⟩ := hD.x
  have three : ∀ {a : Addr} {z : Str} {pre : List V} {x1 x2 x3 : V} {e1 e2 e3 : Ex}, H a = some (.tup (.str z :: pre ++ [x1, x2, x3])) → ExAt H e1 x1 → ExAt H e2 x2 → ExAt H e3 x3 → e1.fit → e2.fit → e3.fit →
      ∀ p, H p = none → ∀ D, (upd H p (.tup [x1, x2, x3])) D = none → ∀ {Qd : Hp → Prop},
      (∀ H', Kp (Mp A) H H' → PD H' A c (ev3 c e1 e2 e3 s).2.2.2 → H' D = some (.lst [.int (ev3 c e1 e2 e3 s).1, .int (ev3 c e1 e2 e3 s).2.1, .int (ev3 c e1 e2 e3 s).2.2.1]) → Qd H') → ∃ W : Nat → Nat → Hp → Prop, (∃ m, W 0 m (upd (upd H p (.tup [x1, x2, x3])) D (.lst []))) ∧ ∀ i m Hh, W i m Hh →
        ((Itt K p).stop i Hh ∧ Qd Hh) ∨ ((Itt K p).go i Hh ∧ ∃ Nx : Hp → Prop, (∀ H', Nx H' → ∃ m', m' < m ∧ W (i + 1) m' H') ∧ ∀ x H', (Itt K p).yld i Hh x H' → gName 4 x (wipe [some (.ref A.x), some v, some (.str z), none, none] [4]) H' fun σ2 H2 => wipe σ2 [4] = wipe [some (.ref A.x), some v, some (.str z), none, none] [4] ∧ tYes σ2 H2 fun b H3 =>
          if b = true then tK (spValP 10) (tCons (tVar 0) (tCons (tVar 4) tNil)) σ2 H3 fun y H4 => ∃ acc, H4 D = some (.lst acc) ∧ acc.length < sizeLine ∧ Nx (upd H4 D (.lst (acc ++ [y]))) else Nx H3) := by
    intro a z pre x1 x2 x3 e1 e2 e3 et h1 h2 h3 f1 f2 f3 p np D nD Qd k2
    have kpp : Kp M0 H (upd H p (.tup [x1, x2, x3])) := Kp.new np
    have hD1 := hD.kp0 kpp
    have outD := hD1.out nD
    have outE := hD1.outA nD
    have hes : All2 (ExA H) [x1, x2, x3] [e1, e2, e3] := ⟨h1, h2, h3, trivial⟩
    have hfit : ∀ e ∈ [e1, e2, e3], e.fit := fun e he => by
      simp only [List.mem_cons, List.not_mem_nil, or_false] at he
      rcases he with q | q | q <;> rw [q] <;> assumption
    refine lc_tup (xs := [x1, x2, x3]) (fun j H' => Kp (Mp A) (upd H p (.tup [x1, x2, x3])) H' ∧ PD H' A c (seqE c ([e1, e2, e3].take j) s).2 ∧ H' D = some (.lst ((seqE c ([e1, e2, e3].take j) s).1.map V.int))) ?_ (fun i H' _ ⟨kp, _⟩ => SqT.of (kp.tup _ _ upd_same)) ?_ ?_
    · exact ⟨Kp.new nD, hD1.kp0 (Kp.new nD), upd_same⟩
    · rintro j x Hj hj ⟨kpj, hDj, eD⟩
      obtain ⟨e, ee, he⟩ := hes.getL hj
      have hf := hfit e (List.mem_of_getElem? ee)
      refine ⟨rfl, _, rfl, _, rfl, A, c, _, x, e, rfl, hDj, evS_wf _ hw, hc, ExA.kp (ExA.kp he kpp) kpj, hf.1, hf.2.2, fun Hk kpk hDk => ?_⟩
      have eDk := kpk.keep _ _ eD outD
      have hjl := (List.getElem?_eq_some_iff.mp hj).1
      have kw : Kp (fun b => b = D) Hk (upd Hk D (.lst ((seqE c ([e1, e2, e3].take j) s).1.map V.int ++ [.int (evE c e (seqE c ([e1, e2, e3].take j) s).2).1]))) := Kp.rfl.set rfl (not_tup eDk trivial)
      refine ⟨_, eDk, Nat.lt_of_le_of_lt (show _ ≤ 100 by rw [List.length_map, evS_len, List.length_take]; show min j 3 ≤ 100; omega) (by decide), (kpj.trans kpk).priv nD, ?_, ?_⟩
      · rw [List.take_add_one, ee]
        show PD _ A c (seqE c ([e1, e2, e3].take j ++ [e]) s).2
        rw [evS_snoc]
        exact hDk.kp kw (fun b mb z => outE (z ▸ mb))
      · rw [List.take_add_one, ee, upd_same]
        show _ = some (HO.lst ((seqE c ([e1, e2, e3].take j ++ [e]) s).1.map V.int))
        rw [evS_snoc, List.map_append]
        rfl
    · rintro Hj ⟨kpj, hDj, eD⟩
      exact k2 Hj ((kpp.weak fun _ z => z.elim).trans kpj) hDj eD
  cases x with
  | set u e =>
    unfold SmAt at hx
    obtain ⟨a, x, rfl, et, h1⟩ := hx
    unfold Sm.ok at hok
    cases hp
    refine ⟨_, rfl, a, _, 0, _, rfl, rfl, SqT.of et, rfl, ?_⟩
    refine ⟨_, rfl, rfl, _, rfl, hit (fun _ => ?_) (fun c => absurd c (by decide +kernel))⟩
    refine ⟨_, rfl, A.x, A.dx, _, rfl, ex, rfl, _, rfl, a, _, 1, _, rfl, rfl, SqT.of et, rfl, _, rfl, _, rfl, a, _, 2, _, rfl, rfl, SqT.of et, rfl, A, c, s, x, e, rfl, hD, hw, hc, h1, hok.2.1, hok.2.2.2, fun H1 kp1 hD1 => ⟨A, c, _, u, _, rfl, hD1, (evE_wf e hw).1, hok.1, fun H2 kp2 hD2 => k _ (kp1.trans kp2) hD2⟩⟩
  | gone =>
    unfold SmAt at hx
    obtain ⟨a, rfl, et⟩ := hx
    cases hp
    refine ⟨_, rfl, a, _, 0, _, rfl, rfl, SqT.of et, rfl, ?_⟩
    refine ⟨_, rfl, rfl, _, rfl, hit (fun c => absurd c (by decide +kernel)) (fun _ => ?_)⟩
    refine ⟨_, rfl, rfl, _, rfl, hit (fun _ => ?_) (fun c => absurd c (by decide +kernel))⟩
    exact ⟨_, rfl, A.x, A.dx, _, rfl, ex, rfl, A, c, s, rfl, hD, hc, fun H2 kp2 hD2 => k _ kp2 hD2⟩
  | say e =>
    unfold SmAt at hx
    obtain ⟨a, x, rfl, et, h1⟩ := hx
    unfold Sm.ok at hok
    cases hp
    refine ⟨_, rfl, a, _, 0, _, rfl, rfl, SqT.of et, rfl, ?_⟩
    refine ⟨_, rfl, rfl, _, rfl, hit (fun c => absurd c (by decide +kernel)) (fun _ => ?_)⟩
    refine ⟨_, rfl, rfl, _, rfl, hit (fun c => absurd c (by decide +kernel)) (fun _ => ?_)⟩
    refine ⟨_, rfl, rfl, _, rfl, hit (fun _ => ?_) (fun c => absurd c (by decide +kernel))⟩
    exact ⟨_, rfl, A.x, A.dx, _, rfl, ex, rfl, _, rfl, _, rfl, a, _, 1, _, rfl, rfl, SqT.of et, rfl, A, c, s, x, e, rfl, hD, hw, hc, h1, hok.1, hok.2.2, fun H1 kp1 hD1 => ⟨A, c, _, _, rfl, hD1, (evE_wf e hw).1, fun H2 kp2 hD2 => k _ (kp1.trans kp2) hD2⟩⟩
  | make n e1 e2 e3 =>
    unfold SmAt at hx
    obtain ⟨a, x1, x2, x3, rfl, et, h1, h2, h3⟩ := hx
    unfold Sm.ok at hok
    cases hp
    refine ⟨_, rfl, a, _, 0, _, rfl, rfl, SqT.of et, rfl, ?_⟩
    refine ⟨_, rfl, rfl, _, rfl, hit (fun c => absurd c (by decide +kernel)) (fun _ => ?_)⟩
    refine ⟨_, rfl, rfl, _, rfl, hit (fun c => absurd c (by decide +kernel)) (fun _ => ?_)⟩
    refine ⟨_, rfl, rfl, _, rfl, hit (fun c => absurd c (by decide +kernel)) (fun _ => ?_)⟩
    refine ⟨_, rfl, _, rfl, -3, rfl, a, _, rfl, SqT.of et, fun q => absurd q.1 (by show ¬ (2 : Nat) = 0; decide), fun _ p np => ?_⟩
    refine ⟨p, rfl, ⟨[x1, x2, x3], SqT.of upd_same⟩, fun D nD => ?_⟩
    refine three (pre := [.int n]) et h1 h2 h3 hok.2.1 hok.2.2.1 hok.2.2.2 p np D nD (fun H1 kp1 hD1 eD => ?_)
    have hw3 := (ev3_wf e1 e2 e3 hw).1
    obtain ⟨lv1, ex1, _⟩ := hD1.x
    refine ⟨_, rfl, rfl, _, rfl, hit (fun _ => ?_) (fun c => absurd c (by decide +kernel))⟩
    exact ⟨_, rfl, A.x, A.dx, _, rfl, ex1, rfl, _, rfl, a, _, 1, _, rfl, rfl, SqT.of (kp1.tup _ _ et), rfl, _, rfl, D, _, 0, _, rfl, rfl, SqL.of eD, rfl, _, rfl, D, _, 1, _, rfl, rfl, SqL.of eD, rfl, _, rfl, D, _, 2, _, rfl, rfl, SqL.of eD, rfl, A, c, _, n, _, _, _, rfl, hD1, hw3, fun H2 kp2 hD2 => k _ (kp1.trans kp2) hD2⟩
  | push e1 e2 e3 =>
    unfold SmAt at hx
    obtain ⟨a, x1, x2, x3, rfl, et, h1, h2, h3⟩ := hx
    unfold Sm.ok at hok
    cases hp
    refine ⟨_, rfl, a, _, 0, _, rfl, rfl, SqT.of et, rfl, ?_⟩
    refine ⟨_, rfl, rfl, _, rfl, hit (fun c => absurd c (by decide +kernel)) (fun _ => ?_)⟩
    refine ⟨_, rfl, rfl, _, rfl, hit (fun c => absurd c (by decide +kernel)) (fun _ => ?_)⟩
    refine ⟨_, rfl, rfl, _, rfl, hit (fun c => absurd c (by decide +kernel)) (fun _ => ?_)⟩
    refine ⟨_, rfl, _, rfl, -3, rfl, a, _, rfl, SqT.of et, fun q => absurd q.1 (by show ¬ (1 : Nat) = 0; decide), fun _ p np => ?_⟩
    refine ⟨p, rfl, ⟨[x1, x2, x3], SqT.of upd_same⟩, fun D nD => ?_⟩
    refine three (pre := []) et h1 h2 h3 hok.1 hok.2.1 hok.2.2 p np D nD (fun H1 kp1 hD1 eD => ?_)
    have hw3 := (ev3_wf e1 e2 e3 hw).1
    obtain ⟨lv1, ex1, _⟩ := hD1.x
    refine ⟨_, rfl, rfl, _, rfl, hit (fun c => absurd c (by decide +kernel)) (fun _ => ?_)⟩
    refine ⟨_, rfl, rfl, _, rfl, hit (fun _ => ?_) (fun c => absurd c (by decide +kernel))⟩
    exact ⟨_, rfl, A.x, A.dx, _, rfl, ex1, rfl, _, rfl, D, _, 0, _, rfl, rfl, SqL.of eD, rfl, _, rfl, D, _, 1, _, rfl, rfl, SqL.of eD, rfl, _, rfl, D, _, 2, _, rfl, rfl, SqL.of eD, rfl, A, c, _, _, _, _, rfl, hD1, hw3, fun H2 kp2 hD2 => k _ (kp1.trans kp2) hD2⟩
  | ite _ _ _ => cases hp
  | whl _ _ => cases hp
end
end G
set_option Elab.async false
set_option linter.all false
set_option maxRecDepth 100000
set_option maxHeartbeats 4000000
namespace G
open PySem PySem.Spec PyProof.Rows L2
section
variable {P : Program} {w : World} {K : PySem.W.Frag} {mg : Str → Option Value} {base : Heap}
theorem scp_do_while : FnScope ["effects", "statement"] ["effects", "statement"] (defScope sp_do_while) := ⟨rfl, rfl, rfl, by decide +kernel, rfl, by decide +kernel, by decide +kernel⟩
theorem ok_p_do_while1 {n : Nat} (R : Cal P w K mg base "do_body" (17 + 3 * n) ["effects", "body"] (spBodyP n)) (T : Tx w K mg) : Cal P w K mg base "do_while" (17+3*n+1) ["effects", "statement"] (spWhileP n) := by
  obtain ⟨fd, F⟩ : ∃ fd, Fun K "do_while" "do_while" sp_do_while 668 fd := T.fn 54 _ rfl
  refine T.cal F 113 rfl (fun _ _ _ _ _ _ us hl => match us, hl with | [_, _], _ => rfl) ?_
  refine F.ok scp_do_while (fun vs H Q E h => ?_) (fun cdv A outer s H vs Q E hr h => ?_)
  · obtain ⟨A, c, s, v, e, l, rfl, _⟩ := h
    rfl
  obtain ⟨A, c, s, v, e, l, rfl, hD, hw, hc, hx, hf, hok, hb, k⟩ := h
  refine ⟨_, (pss_cons (ps_while PassesOwn.never (pt_cmpR op_ne (pe_k (ok_p_value_of T 10) (hr.mono (by omega)) (pa_cons (pv 0) (pa_cons (pe_ix ix_tup (pv 1) pe_int (fun _ _ => rfl)) pa_nil))) pe_int (nomark _)) (pss_one (ps_if (PW.pt (pw_or (pt_not (pt_val (pe_k R (hr.mono (by omega)) (pa_cons (pv 0) (pa_cons (pe_ix ix_tup (pv 1) pe_int (fun _ _ => rfl)) pa_nil))))) (pw_or1 (pt_not (pt_val (pe_m0 (ok_m_Effects_spend T) (T.cl cEffects mem_cEffects) (hr.mono (by omega)) (pv 0))))))) (pss_one (ps_ret pe_bl)) pss_nil)))
    (pss_one (ps_ret pe_bl))), ?_⟩
  unfold SmAt at hx
  obtain ⟨a, x, b1, xs, rfl, et, h1, eb, hl⟩ := hx
  refine ⟨fun m σ' H' => ∃ si, m = si.fuel ∧ σ' = [some (.ref A.x), some (.ref a)] ∧ Kp (Mp A) H H' ∧ PD H' A c si ∧ WfS c si ∧ ∀ b s', Runs c (.rnd e l) si b s' → Runs c (.rnd e l) s b s', ⟨_, s, rfl, rfl, Kp.rfl, hD, hw, fun _ _ r => r⟩, ?_⟩
  rintro m σ' H1 ⟨si, rfl, rfl, kp1, hD1, hw1, back⟩
  have et1 := kp1.tup _ _ et
  refine ⟨_, rfl, _, rfl, a, _, 1, _, rfl, rfl, SqT.of et1, rfl, A, c, si, x, e, rfl, hD1, hw1, hc, h1.kp kp1, hf.1, hf.2.2, fun H2 kp2 hD2 => ?_⟩
  obtain ⟨hw2, hfe⟩ := evE_wf e hw1
  have k12 := kp1.trans kp2
  refine ⟨rfl, _, rfl, hit (fun z => ?_) (fun z => ?_)⟩
  · have z' : (evE c e si).1 ≠ 0 := by simpa using z
    refine ⟨_, fun _ _ h => h, ?_⟩
    refine ⟨_, rfl, _, rfl, a, _, 2, _, rfl, rfl, SqT.of (kp2.tup _ _ et1), rfl, A, c, _, .ref b1, l, rfl, hD2, hw2, hc, ⟨b1, xs, rfl, k12.tup _ _ eb, BdAt.kp k12 _ _ hl⟩, hok, hb, fun b s3 H3 hr kp3 hD3 => ?_⟩
    obtain ⟨hw3, hle⟩ := hr.wf hw2
    have k13 := k12.trans kp3
    cases b with
    | false => exact ⟨_, rfl, iteT (iteT (k _ _ _ (back _ _ (.rstop z' hr)) k13 hD3))⟩
    | true =>
      obtain ⟨lv3, ex3, _⟩ := hD3.x
      refine ⟨_, rfl, iteF ⟨_, rfl, A.x, A.dx, _, rfl, ex3, rfl, A, c, s3, rfl, hD3, fun y => ⟨_, rfl, iteT (k _ _ _ (back _ _ (.rdry z' hr y)) k13 hD3)⟩, fun y H4 kp4 hD4 => ⟨_, rfl, iteF ⟨(pay s3).fuel, ?_, pay s3, rfl, rfl, k13.trans kp4, hD4, pay_wf hw3, fun b s' r => back b s' (.rgo z' hr y r)⟩⟩⟩⟩
      show s3.fuel - 1 < si.fuel
      omega
  · have z' : (evE c e si).1 = 0 := by simpa using z
    exact k _ _ _ (back _ _ (.fin z')) k12 hD2
theorem scp_do_statement : FnScope ["effects", "statement"] ["effects", "statement"] (defScope sp_do_statement) := ⟨rfl, rfl, rfl, by decide +kernel, rfl, by decide +kernel, by decide +kernel⟩
theorem ok_p_do_statement1 {n : Nat} (R : Cal P w K mg base "do_body" (17 + 3 * n) ["effects", "body"] (spBodyP n)) (W : Cal P w K mg base "do_while" (17 + 3 * n + 1) ["effects", "statement"] (spWhileP n)) (T : Tx w K mg) : Cal P w K mg base "do_statement" (17+3*n+2) ["effects", "statement"] (spStmP n) := by
  obtain ⟨fd, F⟩ : ∃ fd, Fun K "do_statement" "do_statement" sp_do_statement 661 fd := T.fn 53 _ rfl
  refine T.cal F 112 rfl (fun _ _ _ _ _ _ us hl => match us, hl with | [_, _], _ => rfl) ?_
  refine F.ok scp_do_statement (fun vs H Q E h => ?_) (fun cdv A outer s H vs Q E hr h => ?_)
  · obtain ⟨A, c, s, v, x, rfl, _⟩ := h
    rfl
  obtain ⟨A, c, s, v, x, rfl, hD, hw, hc, hx, hok, hbd, k⟩ := h
  refine ⟨_, (pss_cons (ps_if (pt_not (pt_val (pe_m0 (ok_m_Effects_spend T) (T.cl cEffects mem_cEffects) (hr.mono (by omega)) (pv 0)))) (pss_one (ps_ret pe_bl)) pss_nil)
    (pss_cons (ps_if (pt_cmpR op_eq (pe_ix ix_tup (pv 1) pe_int (fun _ _ => rfl)) (gc T 58 (.str "if") rfl) (nomark _)) (pss_one (ps_ret (pe_k R (hr.mono (by omega)) (pa_cons (pv 0) (pa_cons (pe_ifExp (pt_cmpR op_ne (pe_k (ok_p_value_of T 10) (hr.mono (by omega)) (pa_cons (pv 0) (pa_cons (pe_ix ix_tup (pv 1) pe_int (fun _ _ => rfl)) pa_nil))) pe_int (nomark _)) (pe_ix ix_tup (pv 1) pe_int (fun _ _ => rfl)) (pe_ix ix_tup (pv 1) pe_int (fun _ _ => rfl))) pa_nil))))) pss_nil)
    (pss_cons (ps_if (PW.pt (pw_and (pt_cmpR op_eq (pe_callB call_len_seq rfl (fr_len T) (by decide +kernel) (pa_cons (pv 1) pa_nil)) pe_int (nomark _)) (pw_and1 (pt_cmpR op_ne (pe_ix ix_tup (pv 1) pe_int (fun _ _ => rfl)) (gc T 53 (.str "set") rfl) (nomark _))))) (pss_one (ps_ret (pe_k W (hr.mono (by omega)) (pa_cons (pv 0) (pa_cons (pv 1) pa_nil))))) pss_nil)
    (pss_cons (ps_expr (pe_k (ok_p_do_plain T) (hr.mono (by omega)) (pa_cons (pv 0) (pa_cons (pv 1) pa_nil))))
    (pss_one (ps_ret pe_bl)))))), ?_⟩
  obtain ⟨lv, ex, elv⟩ := hD.x
  refine ⟨_, rfl, A.x, A.dx, _, rfl, ex, rfl, A, c, s, rfl, hD, fun z => ⟨_, rfl, iteT (k _ _ _ (.dry z) Kp.rfl hD)⟩, fun hpos H1 kp1 hD1 => ⟨_, rfl, iteF ?_⟩⟩
  have hwp := pay_wf hw
  have hx1 := SmAt.kp kp1 _ _ hx
  cases x with
  | ite e l r =>
    unfold SmAt at hx1
    obtain ⟨a, x, b1, b2, xs, ys, rfl, et, h1, e1, hl, e2, hr⟩ := hx1
    unfold Sm.ok at hok
    simp only [Sm.bd] at hbd
    refine ⟨_, rfl, a, _, 0, _, rfl, rfl, SqT.of et, rfl, rfl, _, rfl, hit (fun _ => ?_) (fun c => absurd c (by decide +kernel))⟩
    refine ⟨_, rfl, _, rfl, _, rfl, a, _, 1, _, rfl, rfl, SqT.of et, rfl, A, c, pay s, x, e, rfl, hD1, hwp, hc, h1, hok.1.1, hok.1.2.2, fun H2 kp2 hD2 => ?_⟩
    have hw2 := (evE_wf e hwp).1
    have k12 := kp1.trans kp2
    refine ⟨rfl, _, rfl, hit (fun z => ?_) (fun z => ?_)⟩
    · have z' : (evE c e (pay s)).1 ≠ 0 := by simpa using z
      refine ⟨_, rfl, a, _, 2, _, rfl, rfl, SqT.of (kp2.tup _ _ et), rfl, A, c, _, .ref b1, l, rfl, hD2, hw2, hc, ⟨b1, xs, rfl, kp2.tup _ _ e1, BdAt.kp kp2 _ _ hl⟩, hok.2.1, by omega, fun b s' H3 hrr kp3 hD3 => k _ _ _ (.ite hpos ?_) (k12.trans kp3) hD3⟩
      rw [if_pos z']
      exact hrr
    · have z' : ¬ (evE c e (pay s)).1 ≠ 0 := by simpa using z
      refine ⟨_, rfl, a, _, 3, _, rfl, rfl, SqT.of (kp2.tup _ _ et), rfl, A, c, _, .ref b2, r, rfl, hD2, hw2, hc, ⟨b2, ys, rfl, kp2.tup _ _ e2, BdAt.kp kp2 _ _ hr⟩, hok.2.2, by omega, fun b s' H3 hrr kp3 hD3 => k _ _ _ (.ite hpos ?_) (k12.trans kp3) hD3⟩
      rw [if_neg z']
      exact hrr
  | whl e l =>
    have hx3 := hx1
    unfold SmAt at hx1
    obtain ⟨a, x, b1, xs, rfl, et, h1, e1, hl⟩ := hx1
    unfold Sm.ok at hok
    simp only [Sm.bd] at hbd
    refine ⟨_, rfl, a, _, 0, _, rfl, rfl, SqT.of et, rfl, rfl, _, rfl, hit (fun c => absurd c (by decide +kernel)) (fun _ => ?_)⟩
    refine ⟨_, rfl, a, _, rfl, .inr (SqT.of et), rfl, _, rfl, iteT ⟨_, rfl, a, _, 0, _, rfl, rfl, SqT.of et, rfl, rfl, _, rfl, hit (fun _ => ?_) (fun c => absurd c (by decide +kernel))⟩⟩
    exact ⟨_, rfl, _, rfl, A, c, pay s, .ref a, e, l, rfl, hD1, hwp, hc, hx3, hok.1, hok.2, hbd, fun b s' H3 hrr kp3 hD3 => k _ _ _ (.whl hpos hrr) (kp1.trans kp3) hD3⟩
  | set u e =>
    have hx3 := hx1
    unfold SmAt at hx1
    obtain ⟨a, x, rfl, et, _⟩ := hx1
    refine ⟨_, rfl, a, _, 0, _, rfl, rfl, SqT.of et, rfl, rfl, _, rfl, hit (fun c => absurd c (by decide +kernel)) (fun _ => ?_)⟩
    refine ⟨_, rfl, a, _, rfl, .inr (SqT.of et), rfl, _, rfl, iteT ⟨_, rfl, a, _, 0, _, rfl, rfl, SqT.of et, rfl, rfl, _, rfl, hit (fun c => absurd c (by decide +kernel)) (fun _ => ?_)⟩⟩
    exact ⟨_, rfl, _, rfl, A, c, pay s, _, .ref a, _, rfl, hD1, hwp, hc, hx3, hok, rfl, fun H2 kp2 hD2 => k _ _ _ (.plain hpos rfl) (kp1.trans kp2) hD2⟩
  | make n1 e1 e2 e3 =>
    have hx3 := hx1
    unfold SmAt at hx1
    obtain ⟨a, x1, x2, x3, rfl, et, _⟩ := hx1
    refine ⟨_, rfl, a, _, 0, _, rfl, rfl, SqT.of et, rfl, rfl, _, rfl, hit (fun c => absurd c (by decide +kernel)) (fun _ => ?_)⟩
    refine ⟨_, rfl, a, _, rfl, .inr (SqT.of et), rfl, _, rfl, iteF (iteF ?_)⟩
    exact ⟨_, rfl, _, rfl, A, c, pay s, _, .ref a, _, rfl, hD1, hwp, hc, hx3, hok, rfl, fun H2 kp2 hD2 => k _ _ _ (.plain hpos rfl) (kp1.trans kp2) hD2⟩
  | push e1 e2 e3 =>
    have hx3 := hx1
    unfold SmAt at hx1
    obtain ⟨a, x1, x2, x3, rfl, et, _⟩ := hx1
    refine ⟨_, rfl, a, _, 0, _, rfl, rfl, SqT.of et, rfl, rfl, _, rfl, hit (fun c => absurd c (by decide +kernel)) (fun _ => ?_)⟩
    refine ⟨_, rfl, a, _, rfl, .inr (SqT.of et), rfl, _, rfl, iteF (iteF ?_)⟩
    exact ⟨_, rfl, _, rfl, A, c, pay s, _, .ref a, _, rfl, hD1, hwp, hc, hx3, hok, rfl, fun H2 kp2 hD2 => k _ _ _ (.plain hpos rfl) (kp1.trans kp2) hD2⟩
  | gone =>
    have hx3 := hx1
    unfold SmAt at hx1
    obtain ⟨a, rfl, et⟩ := hx1
    refine ⟨_, rfl, a, _, 0, _, rfl, rfl, SqT.of et, rfl, rfl, _, rfl, hit (fun c => absurd c (by decide +kernel)) (fun _ => ?_)⟩
    refine ⟨_, rfl, a, _, rfl, .inr (SqT.of et), rfl, _, rfl, iteF (iteF ?_)⟩
    exact ⟨_, rfl, _, rfl, A, c, pay s, _, .ref a, _, rfl, hD1, hwp, hc, hx3, hok, rfl, fun H2 kp2 hD2 => k _ _ _ (.plain hpos rfl) (kp1.trans kp2) hD2⟩
  | say e =>
    have hx3 := hx1
    unfold SmAt at hx1
    obtain ⟨a, x, rfl, et, _⟩ := hx1
    refine ⟨_, rfl, a, _, 0, _, rfl, rfl, SqT.of et, rfl, rfl, _, rfl, hit (fun c => absurd c (by decide +kernel)) (fun _ => ?_)⟩
    refine ⟨_, rfl, a, _, rfl, .inr (SqT.of et), rfl, _, rfl, iteF (iteF ?_)⟩
    exact ⟨_, rfl, _, rfl, A, c, pay s, _, .ref a, _, rfl, hD1, hwp, hc, hx3, hok, rfl, fun H2 kp2 hD2 => k _ _ _ (.plain hpos rfl) (kp1.trans kp2) hD2⟩
theorem scp_do_body : FnScope ["effects", "body", "statement"] ["effects", "body"] (defScope sp_do_body) := ⟨rfl, rfl, rfl, by decide +kernel, rfl, by decide +kernel, by decide +kernel⟩
theorem ok_p_do_body1 {n : Nat} (W : Cal P w K mg base "do_statement" (17 + 3 * n + 2) ["effects", "statement"] (spStmP n)) (T : Tx w K mg) : Cal P w K mg base "do_body" (17+3*n+2+1) ["effects", "body"] (spBodyP (n+1)) := by
  obtain ⟨fd, F⟩ : ∃ fd, Fun K "do_body" "do_body" sp_do_body 654 fd := T.fn 52 _ rfl
  refine T.cal F 111 rfl (fun _ _ _ _ _ _ us hl => match us, hl with | [_, _], _ => rfl) ?_
  refine F.ok scp_do_body (fun vs H Q E h => ?_) (fun cdv A outer s H vs Q E hr h => ?_)
  · obtain ⟨A, c, s, v, l, rfl, _⟩ := h
    rfl
  obtain ⟨A, c, s, v, l, rfl, hD, hw, hc, ⟨t, xs, rfl, et, hl⟩, hok, hb, k⟩ := h
  refine ⟨_, (pss_cons (ps_for PassesOwn.never rfl (pi_tup (pv 1)) (pg_name (i := 2) scp_do_body.nd rfl (Or.inl rfl))
      (pss_one (ps_if (pt_not (pt_val (pe_k W (hr.mono (by omega)) (pa_cons (pv 0) (pa_cons (pv 2) pa_nil))))) (pss_one (ps_ret pe_bl)) pss_nil)))
    (pss_one (ps_ret pe_bl))), ?_⟩
  refine ⟨_, rfl, t, rfl, ⟨_, SqT.of et⟩, ?_⟩
  refine for_tup (xs := xs) (fun i σ' H' => ∃ (k1 : Option V) (si : S), σ' = [some (.ref A.x), some (.ref t), k1] ∧ Kp (Mp A) H H' ∧ PD H' A c si ∧ WfS c si ∧ ∀ b s', Runs c (.body (l.drop i)) si b s' → Runs c (.body l) s b s') ?_ ?_ ?_ ?_
  · exact ⟨none, s, rfl, Kp.rfl, hD, hw, fun _ _ r => r⟩
  · rintro i σ' H' _ ⟨_, _, _, kp, _⟩
    exact SqT.of (kp.tup _ _ et)
  · rintro i y σ' H1 hi ⟨k1, si, rfl, kp1, hD1, hw1, back⟩
    obtain ⟨x, ex, hx⟩ := BdAt.get hl hi
    have hxo := oks_get hok ex
    have hbd := bds_get ex
    have edr : l.drop i = x :: l.drop (i + 1) := by
      obtain ⟨hi', hv⟩ := List.getElem?_eq_some_iff.mp ex
      rw [← hv]
      exact List.drop_eq_getElem_cons hi'
    rw [edr] at back
    refine ⟨_, rfl, _, rfl, A, c, si, y, x, rfl, hD1, hw1, hc, SmAt.kp kp1 _ _ hx, hxo, by omega, fun b s2 H2 hr kp2 hD2 => ?_⟩
    have k12 := kp1.trans kp2
    cases b with
    | false => exact ⟨_, rfl, iteT (k _ _ _ (back _ _ (.stop hr)) k12 hD2)⟩
    | true => exact ⟨_, rfl, iteF ⟨_, s2, rfl, k12, hD2, (hr.wf hw1).1, fun b s' r => back b s' (.cons hr r)⟩⟩
  · rintro σ' H1 ⟨k1, si, rfl, kp1, hD1, hw1, back⟩
    rw [show xs.length = l.length from hl.len, List.drop_length] at back
    exact k _ _ _ (back _ _ (.nil _)) kp1 hD1
theorem ok_p_do_body (T : Tx w K mg) : ∀ n : Nat, Cal P w K mg base "do_body" (17 + 3 * n) ["effects", "body"] (spBodyP n)
  | 0 => by
    obtain ⟨fd, F⟩ : ∃ fd, Fun K "do_body" "do_body" sp_do_body 654 fd := T.fn 52 _ rfl
    exact T.cal F 111 rfl (fun _ _ _ _ _ _ us hl => match us, hl with | [_, _], _ => rfl) (fnok_none fun vs H Q E h => by
      obtain ⟨A, c, s, v, l, _, _, _, _, _, _, d2, _⟩ := h
      have := bds_pos l
      omega)
  | n + 1 => (ok_p_do_body1 (ok_p_do_statement1 (ok_p_do_body T n) (ok_p_do_while1 (ok_p_do_body T n) T) T) T).mono (by omega)
end
end G
set_option Elab.async false
set_option linter.all false
set_option maxRecDepth 100000
set_option maxHeartbeats 4000000
namespace G
open PySem PySem.Spec PyProof.Rows L2
def stF (p : Pts) (sh bo sa as lv : Addr) : List (Str × V) := [("tick", .int p.tick), ("seed", .int p.seed), ("shared", .ref sh), ("bodies", .ref bo), ("said", .ref sa), ("asked", .ref as), ("leaving", .ref lv)]
def StAt (H : Hp) (a : Addr) (p : Pts) : Prop := ∃ dx sh bo sa as lv, H a = some (.ins cStanding dx (stF p sh bo sa as lv)) ∧ Pt7 H p sh bo sa as lv
theorem StAt.kp {M : Addr → Prop} {H H' : Hp} (k : Kp M H H') {a : Addr} {p : Pts} (n : ¬ M a) (h : StAt H a p) : StAt H' a p := by
  obtain ⟨dx, sh, bo, sa, as, lv, h1, h2⟩ := h
  exact ⟨dx, sh, bo, sa, as, lv, k.keep _ _ h1 n, h2.kp k⟩
theorem StAt.kp0 {H H' : Hp} (k : Kp M0 H H') {a : Addr} {p : Pts} (h : StAt H a p) : StAt H' a p := h.kp k id
theorem stepL {x p : Addr} {H H1 : Hp} {o u v : HO} (k : Kp (fun a => a = x) H H1) (ex : H1 x = some o) (nt : notTup o) (np : H1 p = none) :
    Kp (fun a => a = x) H (upd (upd H1 p u) x v) ∧ Kp (fun a => a = x) H1 (upd (upd H1 p u) x v) ∧ (upd (upd H1 p u) x v) p = some u ∧ p ≠ x ∧ H p = none := by
  have ne : p ≠ x := (ne_of_none ex np).symm
  have k1 : Kp (fun a => a = x) H1 (upd H1 p u) := Kp.new np
  have k2 : Kp (fun a => a = x) (upd H1 p u) (upd (upd H1 p u) x v) := Kp.rfl.set rfl (not_tup (o := o) (by rw [upd_ne ne.symm]; exact ex) nt)
  refine ⟨k.trans (k1.trans k2), k1.trans k2, by rw [upd_ne ne, upd_same], ne, ?_⟩
  cases q : H p with
  | none => rfl
  | some o2 => rw [k.keep p o2 q ne] at np; cases np
theorem madeI {H : Hp} {x dx : Addr} {o1 o2 o3 : HO} (hx : H x = none) (hd : H dx = none) (nt : notTup o2) : Kp M0 H (upd (upd (upd H dx o1) x o2) x o3) :=
  Kp.made hx hd rfl (Kp.rfl.set rfl (not_tup upd_same nt))
def spStInit : Sp := fun vs H Q _ => ∃ (x dx sh bo sa as lv : Addr) (p : Pts), vs = [.ref x, .int p.tick, .int p.seed, .ref sh, .ref bo, .ref sa, .ref as, .ref lv] ∧ H x = some (.ins cStanding dx []) ∧ Q .non (upd H x (.ins cStanding dx (stF p sh bo sa as lv)))
def spStand : Sp := fun vs H Q _ => ∃ (A : PA) (c : Cfg) (s : S), vs = [.ref A.x] ∧ PD H A c s ∧ ∀ u H', Kp M0 H H' → StAt H' u (ptsF c s) → Q (.ref u) H'
def spEfInit : Sp := fun vs H Q _ => ∃ (x dx g st it : Addr) (p : Pts) (rows : List (List Nat)) (wd : Nat) (ks : List Kd) (pl num other side : Int) (inp : List Int) (ix : Nat) (b : Bod), vs = [.ref x, .ref g, .ref st, .int num, .int other, .int side, .ref it] ∧
  H x = some (.ins cEffects dx []) ∧ GaAt H g pl rows wd ks ∧ StAt H st p ∧ H it = some (.tup (inp.map V.int)) ∧ BodsOk ks.length pl p.bs ∧ p.bs[ix]? = some b ∧ b.num = num ∧
  ∀ (A : PA) H', Kp (fun a => a = x) H H' → A.x = x → PD H' A (cfgF p rows wd ks.length pl num other side inp ix) (st0F p) → (∀ a, Mp A a → a = x ∨ H a = none) → Q .non H'
section
variable {P : Program} {w : World} {K : PySem.W.Frag} {mg : Str → Option Value} {base : Heap}
theorem scm_Standing_init : FnScope ["self", "tick", "seed", "shared", "bodies", "said", "asked", "leaving"] ["self", "tick", "seed", "shared", "bodies", "said", "asked", "leaving"] (defScope sm_Standing_init) := ⟨rfl, rfl, rfl, by decide +kernel, rfl, by decide +kernel, by decide +kernel⟩
theorem ok_m_Standing_init (T : Tx w K mg) : CalI P w K mg base cStanding "Standing" 1 ["self", "tick", "seed", "shared", "bodies", "said", "asked", "leaving"] spStInit := by
  obtain ⟨fd, F⟩ : ∃ fd, Fun K "__init__" "Standing.__init__" sm_Standing_init 441 fd := T.fn 26 _ rfl
  refine T.calI F (T.mkc (cStanding, 441) (by simp [mkL])) 94 rfl (fun _ _ _ _ _ _ us hl => match us, hl with | [_, _, _, _, _, _, _, _], _ => rfl) ?_
  refine F.ok scm_Standing_init (fun vs H Q E h => ?_) (fun cdv A outer s H vs Q E hr h => ?_)
  · obtain ⟨x, dx, sh, bo, sa, as, lv, p, rfl, _⟩ := h
    rfl
  obtain ⟨x, dx, sh, bo, sa, as, lv, p, rfl, hx, k⟩ := h
  refine ⟨_, (pss_cons (ps_fld (pv 0) (pv 1) rfl)
    (pss_cons (ps_fld (pv 0) (pv 2) rfl)
    (pss_cons (ps_fld (pv 0) (pv 3) rfl)
    (pss_cons (ps_fld (pv 0) (pv 4) rfl)
    (pss_cons (ps_fld (pv 0) (pv 5) rfl)
    (pss_cons (ps_fld (pv 0) (pv 6) rfl)
    (pss_one (ps_fld (pv 0) (pv 7) rfl)))))))), ?_⟩
  have nK : ∀ f, (cStanding, f) ∈ noL → NoAttr K cStanding f := fun f h => T.no (cStanding, f) h
  refine ⟨_, rfl, _, rfl, x, cStanding, dx, _, rfl, hx, T.cl _ mem_cStanding, nK "tick" (by simp [noL]), (by show 0 < 1000; decide), ?_⟩
  refine ⟨_, rfl, _, rfl, x, cStanding, dx, _, rfl, upd_same, T.cl _ mem_cStanding, nK "seed" (by simp [noL]), (by show 1 < 1000; decide), ?_⟩
  refine ⟨_, rfl, _, rfl, x, cStanding, dx, _, rfl, upd_same, T.cl _ mem_cStanding, nK "shared" (by simp [noL]), (by show 2 < 1000; decide), ?_⟩
  refine ⟨_, rfl, _, rfl, x, cStanding, dx, _, rfl, upd_same, T.cl _ mem_cStanding, nK "bodies" (by simp [noL]), (by show 3 < 1000; decide), ?_⟩
  refine ⟨_, rfl, _, rfl, x, cStanding, dx, _, rfl, upd_same, T.cl _ mem_cStanding, nK "said" (by simp [noL]), (by show 4 < 1000; decide), ?_⟩
  refine ⟨_, rfl, _, rfl, x, cStanding, dx, _, rfl, upd_same, T.cl _ mem_cStanding, nK "asked" (by simp [noL]), (by show 5 < 1000; decide), ?_⟩
  refine ⟨_, rfl, _, rfl, x, cStanding, dx, _, rfl, upd_same, T.cl _ mem_cStanding, nK "leaving" (by simp [noL]), (by show 6 < 1000; decide), ?_⟩
  rw [upd_upd, upd_upd, upd_upd, upd_upd, upd_upd, upd_upd]
  exact k
theorem scm_Effects_standing : FnScope ["self", "parts"] ["self"] (defScope sm_Effects_standing) := ⟨rfl, rfl, rfl, by decide +kernel, rfl, by decide +kernel, by decide +kernel⟩
theorem ok_m_Effects_standing (T : Tx w K mg) : CalM P w K mg base cEffects "standing" 3 ["self"] spStand := by
  obtain ⟨fd, F⟩ : ∃ fd, Fun K "standing" "Effects.standing" sm_Effects_standing 495 fd := T.fn 30 _ rfl
  refine T.calM F (T.me (cEffects, "standing", 495) (by simp [meL])) (fun _ _ _ _ _ _ us hl => match us, hl with | [_], _ => rfl) ?_
  refine F.ok scm_Effects_standing (fun vs H Q E h => ?_) (fun cdv A outer s H vs Q E hr h => ?_)
  · obtain ⟨A, c, s, rfl, _⟩ := h
    rfl
  obtain ⟨A, c, s, rfl, hD, k⟩ := h
  refine ⟨_, (pss_cons (ps_set (i := 1) scm_Effects_standing.nd rfl (Or.inl rfl) (pe_tup (pa_cons (pe_callTy call_tuple_of rfl (fr_tuple T) (by decide +kernel) (pa_cons (pe_fld (pv 0) rfl) pa_nil)) (pa_cons (pe_callTy call_tuple_of rfl (fr_tuple T) (by decide +kernel) (pa_cons (pe_fld (pv 0) rfl) pa_nil)) (pa_cons (pe_callTy call_tuple_of rfl (fr_tuple T) (by decide +kernel) (pa_cons (pe_fld (pv 0) rfl) pa_nil)) (pa_cons (pe_callTy call_tuple_of rfl (fr_tuple T) (by decide +kernel) (pa_cons (pe_fld (pv 0) rfl) pa_nil)) pa_nil))))))
    (pss_one (ps_ret (pe_i (ok_m_Standing_init T) (hr.mono (by decide)) (pa_cons (pe_fld (pv 0) rfl) (pa_cons (pe_fld (pv 0) rfl) (pa_cons (pe_ix ix_tup (pv 1) pe_int (fun _ _ => rfl)) (pa_cons (pe_ix ix_tup (pv 1) pe_int (fun _ _ => rfl)) (pa_cons (pe_ix ix_tup (pv 1) pe_int (fun _ _ => rfl)) (pa_cons (pe_ix ix_tup (pv 1) pe_int (fun _ _ => rfl)) (pa_cons (pe_fld (pv 0) rfl) pa_nil))))))))))), ?_⟩
  obtain ⟨lv, ex, elv⟩ := hD.x
  obtain ⟨bv, b1, b2⟩ := hD.bo
  obtain ⟨av, a1, a2⟩ := hD.as
  refine ⟨_, rfl, A.x, cEffects, A.dx, _, _, rfl, ex, T.cl _ mem_cEffects, T.no (cEffects, "shared") (by simp [noL]), rfl, A.sh, _, rfl, .inl ⟨SqL.of hD.sh, fun sh nsh => ?_⟩⟩
  have k1 := Kp.new (M := M0) (o := .tup (s.sh.map V.int)) nsh
  have ex1 := k1.keep _ _ ex id
  refine ⟨_, rfl, A.x, cEffects, A.dx, _, _, rfl, ex1, T.cl _ mem_cEffects, T.no (cEffects, "bodies") (by simp [noL]), rfl, A.bo, _, rfl, .inl ⟨SqL.of (k1.keep _ _ b1 id), fun bo nbo => ?_⟩⟩
  have k2 := k1.trans (Kp.new (M := M0) (o := .tup bv) nbo)
  have ex2 := k2.keep _ _ ex id
  refine ⟨_, rfl, A.x, cEffects, A.dx, _, _, rfl, ex2, T.cl _ mem_cEffects, T.no (cEffects, "said") (by simp [noL]), rfl, A.sa, _, rfl, .inl ⟨SqL.of (k2.keep _ _ hD.sa id), fun sa nsa => ?_⟩⟩
  have k3 := k2.trans (Kp.new (M := M0) (o := .tup (s.said.map V.int)) nsa)
  have ex3 := k3.keep _ _ ex id
  refine ⟨_, rfl, A.x, cEffects, A.dx, _, _, rfl, ex3, T.cl _ mem_cEffects, T.no (cEffects, "asked") (by simp [noL]), rfl, A.as, _, rfl, .inl ⟨SqL.of (k3.keep _ _ a1 id), fun as nas => ?_⟩⟩
  have k4 := k3.trans (Kp.new (M := M0) (o := .tup av) nas)
  refine ⟨(by show 4 ≤ sizeLine; decide), fun t nt => ?_⟩
  have kt := Kp.new (M := M0) (o := .tup [.ref sh, .ref bo, .ref sa, .ref as]) nt
  have k5 := k4.trans kt
  have ex5 := k5.keep _ _ ex id
  have et : (upd (upd (upd (upd (upd H sh (.tup (s.sh.map V.int))) bo (.tup bv)) sa (.tup (s.said.map V.int))) as (.tup av)) t (.tup [.ref sh, .ref bo, .ref sa, .ref as])) t = some (.tup [.ref sh, .ref bo, .ref sa, .ref as]) := upd_same
  refine ⟨_, rfl, A.x, cEffects, A.dx, _, _, rfl, ex5, T.cl _ mem_cEffects, T.no (cEffects, "tick") (by simp [noL]), rfl, _, rfl, A.x, cEffects, A.dx, _, _, rfl, ex5, T.cl _ mem_cEffects, T.no (cEffects, "seed") (by simp [noL]), rfl, _, rfl, t, _, 0, _, rfl, rfl, SqT.of et, rfl, _, rfl, t, _, 1, _, rfl, rfl, SqT.of et, rfl, _, rfl, t, _, 2, _, rfl, rfl, SqT.of et, rfl, _, rfl, t, _, 3, _, rfl, rfl, SqT.of et, rfl, _, rfl, A.x, cEffects, A.dx, _, _, rfl, ex5, T.cl _ mem_cEffects, T.no (cEffects, "leaving") (by simp [noL]), rfl, fun x dx nx ndx nexx => ?_⟩
  refine ⟨x, dx, sh, bo, sa, as, lv, ptsF c s, rfl, upd_same, rfl, ?_⟩
  have kM := madeI (o1 := .own x) (o2 := .ins cStanding dx []) (o3 := .ins cStanding dx (stF (ptsF c s) sh bo sa as lv)) nx ndx trivial
  have kz := k5.trans kM
  refine k _ _ kz ⟨dx, sh, bo, sa, as, lv, upd_same, ?_, ⟨bv, ?_, ?_⟩, ?_, ⟨av, ?_, ?_⟩, ?_⟩
  · exact kM.tup _ _ (kt.tup _ _ ((Kp.new (M := M0) nas).tup _ _ ((Kp.new (M := M0) nsa).tup _ _ ((Kp.new (M := M0) nbo).tup _ _ upd_same))))
  · exact kM.tup _ _ (kt.tup _ _ ((Kp.new (M := M0) nas).tup _ _ ((Kp.new (M := M0) nsa).tup _ _ upd_same)))
  · exact b2.mono fun _ _ r => r.kp kz
  · exact kM.tup _ _ (kt.tup _ _ ((Kp.new (M := M0) nas).tup _ _ upd_same))
  · exact kM.tup _ _ (kt.tup _ _ upd_same)
  · exact a2.mono fun _ _ r => r.kp kz
  · exact kz.tup _ _ elv
theorem scm_Effects_init : FnScope ["self", "game", "standing", "number", "other", "side", "inputs"] ["self", "game", "standing", "number", "other", "side", "inputs"] (defScope sm_Effects_init) := ⟨rfl, rfl, rfl, by decide +kernel, rfl, by decide +kernel, by decide +kernel⟩
theorem ok_m_Effects_init (T : Tx w K mg) : CalI P w K mg base cEffects "Effects" 2 ["self", "game", "standing", "number", "other", "side", "inputs"] spEfInit := by
  obtain ⟨fd, F⟩ : ∃ fd, Fun K "__init__" "Effects.__init__" sm_Effects_init 488 fd := T.fn 29 _ rfl
  refine T.calI F (T.mkc (cEffects, 488) (by simp [mkL])) 97 rfl (fun _ _ _ _ _ _ us hl => match us, hl with | [_, _, _, _, _, _, _], _ => rfl) ?_
  refine F.ok scm_Effects_init (fun vs H Q E h => ?_) (fun cdv A outer s H vs Q E hr h => ?_)
  · obtain ⟨x, dx, g, st, it, p, rows, wd, ks, pl, num, other, side, inp, ix, b, rfl, _⟩ := h
    rfl
  obtain ⟨x, dx, g, st, it, p, rows, wd, ks, pl, num, other, side, inp, ix, b, rfl, hx, ⟨gdx, gr, kt, bt, kvs, eg, hgr, ekt, hks⟩, ⟨sdx, sh, bo, sa, as, lv, est, hp⟩, eit, hbo, eix, enum, k⟩ := h
  refine ⟨_, (pss_cons (ps_fld (pv 0) (pv 1) rfl)
    (pss_cons (ps_fld (pv 0) (pe_fld (pv 2) rfl) rfl)
    (pss_cons (ps_fld (pv 0) (pe_fld (pv 2) rfl) rfl)
    (pss_cons (ps_fld (pv 0) (pe_callTy call_list_of rfl (fr_list T) (by decide +kernel) (pa_cons (pe_fld (pv 2) rfl) pa_nil)) rfl)
    (pss_cons (ps_fld (pv 0) (pe_callTy call_list_of rfl (fr_list T) (by decide +kernel) (pa_cons (pe_fld (pv 2) rfl) pa_nil)) rfl)
    (pss_cons (ps_fld (pv 0) (pe_callTy call_list_of rfl (fr_list T) (by decide +kernel) (pa_cons (pe_fld (pv 2) rfl) pa_nil)) rfl)
    (pss_cons (ps_fld (pv 0) (pe_callTy call_list_of rfl (fr_list T) (by decide +kernel) (pa_cons (pe_fld (pv 2) rfl) pa_nil)) rfl)
    (pss_cons (ps_fld (pv 0) (pe_fld (pv 2) rfl) rfl)
    (pss_cons (ps_fld (pv 0) (pv 3) rfl)
    (pss_cons (ps_fld (pv 0) (pv 4) rfl)
    (pss_cons (ps_fld (pv 0) (pv 5) rfl)
    (pss_cons (ps_fld (pv 0) (pv 6) rfl)
    (pss_cons (ps_fld (pv 0) (pe_k (ok_p_place_ofT T) (hr.mono (by decide)) (pa_cons (pe_fld (pv 2) rfl) (pa_cons (pv 3) pa_nil))) rfl)
    (pss_one (ps_fld (pv 0) (gc T 93 (.int (100)) rfl) rfl))))))))))))))), ?_⟩
  obtain ⟨bvs, eb, hB⟩ := hp.bo
  obtain ⟨avs, eas, hA⟩ := hp.as
  have nK : ∀ f, (cEffects, f) ∈ noL → NoAttr K cEffects f := fun f h => T.no (cEffects, f) h
  have stx : st ≠ x := fun z => by rw [z, hx] at est; cases est
  have gx : g ≠ x := fun z => by rw [z, hx] at eg; cases eg
  have grx : gr ≠ x := fun z => by
    obtain ⟨_, _, e, _⟩ := hgr
    rw [z, hx] at e; cases e
  have gg : g ≠ gr := fun z => by
    obtain ⟨_, _, e, _⟩ := hgr
    rw [← z, eg] at e; cases e
  refine ⟨_, rfl, _, rfl, x, cEffects, dx, _, rfl, hx, T.cl _ mem_cEffects, nK "game" (by simp [noL]), (by show 0 < 1000; decide), ?_⟩
  have q1 : Kp (fun a => a = x) H (upd H x (.ins cEffects dx [("game", .ref g)])) := Kp.rfl.set rfl (not_tup hx trivial)
  have e1 : (upd H x (.ins cEffects dx [("game", .ref g)])) x = some (.ins cEffects dx [("game", .ref g)]) := upd_same
  have es1 := q1.keep _ _ est stx
  refine ⟨_, rfl, st, cStanding, _, _, _, rfl, es1, T.cl _ mem_cStanding, T.no (cStanding, "tick") (by simp [noL]), rfl, _, rfl, x, cEffects, dx, _, rfl, e1, T.cl _ mem_cEffects, nK "tick" (by simp [noL]), (by show 1 < 1000; decide), ?_⟩
  rw [upd_upd]
  have q2 : Kp (fun a => a = x) H (upd H x (.ins cEffects dx [("game", .ref g), ("tick", .int p.tick)])) := Kp.rfl.set rfl (not_tup hx trivial)
  have e2 : (upd H x (.ins cEffects dx [("game", .ref g), ("tick", .int p.tick)])) x = some (.ins cEffects dx [("game", .ref g), ("tick", .int p.tick)]) := upd_same
  have es2 := q2.keep _ _ est stx
  refine ⟨_, rfl, st, cStanding, _, _, _, rfl, es2, T.cl _ mem_cStanding, T.no (cStanding, "seed") (by simp [noL]), rfl, _, rfl, x, cEffects, dx, _, rfl, e2, T.cl _ mem_cEffects, nK "seed" (by simp [noL]), (by show 2 < 1000; decide), ?_⟩
  rw [upd_upd]
  have q3 : Kp (fun a => a = x) H (upd H x (.ins cEffects dx [("game", .ref g), ("tick", .int p.tick), ("seed", .int p.seed)])) := Kp.rfl.set rfl (not_tup hx trivial)
  have e3 : (upd H x (.ins cEffects dx [("game", .ref g), ("tick", .int p.tick), ("seed", .int p.seed)])) x = some (.ins cEffects dx [("game", .ref g), ("tick", .int p.tick), ("seed", .int p.seed)]) := upd_same
  have es3 := q3.keep _ _ est stx
  refine ⟨_, rfl, st, cStanding, _, _, _, rfl, es3, T.cl _ mem_cStanding, T.no (cStanding, "shared") (by simp [noL]), rfl, sh, _, rfl, .inr (SqT.of (q3.tup _ _ hp.sh)), fun l1 n1 => ?_⟩
  refine ⟨_, rfl, x, cEffects, dx, _, rfl, (Kp.new (M := M0) n1).keep _ _ e3 id, T.cl _ mem_cEffects, nK "shared" (by simp [noL]), (by show 3 < 1000; decide), ?_⟩
  obtain ⟨q4, _, d1, f1, g1⟩ := stepL (u := .lst (p.sh.map V.int)) (v := .ins cEffects dx [("game", .ref g), ("tick", .int p.tick), ("seed", .int p.seed), ("shared", .ref l1)]) q3 e3 trivial n1
  have e4 : (upd (upd (upd H x (.ins cEffects dx [("game", .ref g), ("tick", .int p.tick), ("seed", .int p.seed)])) l1 (.lst (p.sh.map V.int))) x (.ins cEffects dx [("game", .ref g), ("tick", .int p.tick), ("seed", .int p.seed), ("shared", .ref l1)])) x = some (.ins cEffects dx [("game", .ref g), ("tick", .int p.tick), ("seed", .int p.seed), ("shared", .ref l1)]) := upd_same
  show tSeq _ _ _ _ (upd (upd (upd H x (.ins cEffects dx [("game", .ref g), ("tick", .int p.tick), ("seed", .int p.seed)])) l1 (.lst (p.sh.map V.int))) x (.ins cEffects dx [("game", .ref g), ("tick", .int p.tick), ("seed", .int p.seed), ("shared", .ref l1)]))
  generalize upd (upd (upd H x (.ins cEffects dx [("game", .ref g), ("tick", .int p.tick), ("seed", .int p.seed)])) l1 (.lst (p.sh.map V.int))) x (.ins cEffects dx [("game", .ref g), ("tick", .int p.tick), ("seed", .int p.seed), ("shared", .ref l1)]) = H4 at q4 d1 e4
  have es4 := q4.keep _ _ est stx
  refine ⟨_, rfl, st, cStanding, _, _, _, rfl, es4, T.cl _ mem_cStanding, T.no (cStanding, "bodies") (by simp [noL]), rfl, bo, _, rfl, .inr (SqT.of (q4.tup _ _ eb)), fun l2 n4 => ?_⟩
  refine ⟨_, rfl, x, cEffects, dx, _, rfl, (Kp.new (M := M0) n4).keep _ _ e4 id, T.cl _ mem_cEffects, nK "bodies" (by simp [noL]), (by show 4 < 1000; decide), ?_⟩
  obtain ⟨q5, r5, dl2, fl2, gl2⟩ := stepL (u := .lst bvs) (v := (.ins cEffects dx [("game", .ref g), ("tick", .int p.tick), ("seed", .int p.seed), ("shared", .ref l1), ("bodies", .ref l2)])) q4 e4 trivial n4
  have e5 : (upd (upd H4 l2 (.lst bvs)) x (.ins cEffects dx [("game", .ref g), ("tick", .int p.tick), ("seed", .int p.seed), ("shared", .ref l1), ("bodies", .ref l2)])) x = some (.ins cEffects dx [("game", .ref g), ("tick", .int p.tick), ("seed", .int p.seed), ("shared", .ref l1), ("bodies", .ref l2)]) := upd_same
  have xl1l2 : l1 ≠ l2 := ne_of_none d1 n4
  have d1 := r5.keep _ _ d1 f1
  show tSeq _ _ _ _ (upd (upd H4 l2 (.lst bvs)) x (.ins cEffects dx [("game", .ref g), ("tick", .int p.tick), ("seed", .int p.seed), ("shared", .ref l1), ("bodies", .ref l2)]))
  generalize upd (upd H4 l2 (.lst bvs)) x (.ins cEffects dx [("game", .ref g), ("tick", .int p.tick), ("seed", .int p.seed), ("shared", .ref l1), ("bodies", .ref l2)]) = H5 at q5 e5 dl2 d1
  have es5 := q5.keep _ _ est stx
  refine ⟨_, rfl, st, cStanding, _, _, _, rfl, es5, T.cl _ mem_cStanding, T.no (cStanding, "said") (by simp [noL]), rfl, sa, _, rfl, .inr (SqT.of (q5.tup _ _ hp.sa)), fun l3 n5 => ?_⟩
  refine ⟨_, rfl, x, cEffects, dx, _, rfl, (Kp.new (M := M0) n5).keep _ _ e5 id, T.cl _ mem_cEffects, nK "said" (by simp [noL]), (by show 5 < 1000; decide), ?_⟩
  obtain ⟨q6, r6, dl3, fl3, gl3⟩ := stepL (u := .lst (p.said.map V.int)) (v := (.ins cEffects dx [("game", .ref g), ("tick", .int p.tick), ("seed", .int p.seed), ("shared", .ref l1), ("bodies", .ref l2), ("said", .ref l3)])) q5 e5 trivial n5
  have e6 : (upd (upd H5 l3 (.lst (p.said.map V.int))) x (.ins cEffects dx [("game", .ref g), ("tick", .int p.tick), ("seed", .int p.seed), ("shared", .ref l1), ("bodies", .ref l2), ("said", .ref l3)])) x = some (.ins cEffects dx [("game", .ref g), ("tick", .int p.tick), ("seed", .int p.seed), ("shared", .ref l1), ("bodies", .ref l2), ("said", .ref l3)]) := upd_same
  have xl1l3 : l1 ≠ l3 := ne_of_none d1 n5
  have d1 := r6.keep _ _ d1 f1
  have xl2l3 : l2 ≠ l3 := ne_of_none dl2 n5
  have dl2 := r6.keep _ _ dl2 fl2
  show tSeq _ _ _ _ (upd (upd H5 l3 (.lst (p.said.map V.int))) x (.ins cEffects dx [("game", .ref g), ("tick", .int p.tick), ("seed", .int p.seed), ("shared", .ref l1), ("bodies", .ref l2), ("said", .ref l3)]))
  generalize upd (upd H5 l3 (.lst (p.said.map V.int))) x (.ins cEffects dx [("game", .ref g), ("tick", .int p.tick), ("seed", .int p.seed), ("shared", .ref l1), ("bodies", .ref l2), ("said", .ref l3)]) = H6 at q6 e6 dl3 d1 dl2
  have es6 := q6.keep _ _ est stx
  refine ⟨_, rfl, st, cStanding, _, _, _, rfl, es6, T.cl _ mem_cStanding, T.no (cStanding, "asked") (by simp [noL]), rfl, as, _, rfl, .inr (SqT.of (q6.tup _ _ eas)), fun l4 n6 => ?_⟩
  refine ⟨_, rfl, x, cEffects, dx, _, rfl, (Kp.new (M := M0) n6).keep _ _ e6 id, T.cl _ mem_cEffects, nK "asked" (by simp [noL]), (by show 6 < 1000; decide), ?_⟩
  obtain ⟨q7, r7, dl4, fl4, gl4⟩ := stepL (u := .lst avs) (v := (.ins cEffects dx [("game", .ref g), ("tick", .int p.tick), ("seed", .int p.seed), ("shared", .ref l1), ("bodies", .ref l2), ("said", .ref l3), ("asked", .ref l4)])) q6 e6 trivial n6
  have e7 : (upd (upd H6 l4 (.lst avs)) x (.ins cEffects dx [("game", .ref g), ("tick", .int p.tick), ("seed", .int p.seed), ("shared", .ref l1), ("bodies", .ref l2), ("said", .ref l3), ("asked", .ref l4)])) x = some (.ins cEffects dx [("game", .ref g), ("tick", .int p.tick), ("seed", .int p.seed), ("shared", .ref l1), ("bodies", .ref l2), ("said", .ref l3), ("asked", .ref l4)]) := upd_same
  have xl1l4 : l1 ≠ l4 := ne_of_none d1 n6
  have d1 := r7.keep _ _ d1 f1
  have xl2l4 : l2 ≠ l4 := ne_of_none dl2 n6
  have dl2 := r7.keep _ _ dl2 fl2
  have xl3l4 : l3 ≠ l4 := ne_of_none dl3 n6
  have dl3 := r7.keep _ _ dl3 fl3
  show tSeq _ _ _ _ (upd (upd H6 l4 (.lst avs)) x (.ins cEffects dx [("game", .ref g), ("tick", .int p.tick), ("seed", .int p.seed), ("shared", .ref l1), ("bodies", .ref l2), ("said", .ref l3), ("asked", .ref l4)]))
  generalize upd (upd H6 l4 (.lst avs)) x (.ins cEffects dx [("game", .ref g), ("tick", .int p.tick), ("seed", .int p.seed), ("shared", .ref l1), ("bodies", .ref l2), ("said", .ref l3), ("asked", .ref l4)]) = H7 at q7 e7 dl4 d1 dl2 dl3
  have es7 := q7.keep _ _ est stx
  refine ⟨_, rfl, st, cStanding, _, _, _, rfl, es7, T.cl _ mem_cStanding, T.no (cStanding, "leaving") (by simp [noL]), rfl, _, rfl, x, cEffects, dx, _, rfl, e7, T.cl _ mem_cEffects, nK "leaving" (by simp [noL]), (by show 7 < 1000; decide), ?_⟩
  refine ⟨_, rfl, _, rfl, x, cEffects, dx, _, rfl, upd_same, T.cl _ mem_cEffects, nK "number" (by simp [noL]), (by show 8 < 1000; decide), ?_⟩
  rw [upd_upd]
  refine ⟨_, rfl, _, rfl, x, cEffects, dx, _, rfl, upd_same, T.cl _ mem_cEffects, nK "other" (by simp [noL]), (by show 9 < 1000; decide), ?_⟩
  rw [upd_upd]
  refine ⟨_, rfl, _, rfl, x, cEffects, dx, _, rfl, upd_same, T.cl _ mem_cEffects, nK "side" (by simp [noL]), (by show 10 < 1000; decide), ?_⟩
  rw [upd_upd]
  refine ⟨_, rfl, _, rfl, x, cEffects, dx, _, rfl, upd_same, T.cl _ mem_cEffects, nK "told_inputs" (by simp [noL]), (by show 11 < 1000; decide), ?_⟩
  rw [upd_upd]
  have q12 : Kp (fun a => a = x) H7 (upd H7 x (.ins cEffects dx [("game", .ref g), ("tick", .int p.tick), ("seed", .int p.seed), ("shared", .ref l1), ("bodies", .ref l2), ("said", .ref l3), ("asked", .ref l4), ("leaving", .ref lv), ("number", .int num), ("other", .int other), ("side", .int side), ("told_inputs", .ref it)])) := Kp.rfl.set rfl (not_tup e7 trivial)
  have e12 : (upd H7 x (.ins cEffects dx [("game", .ref g), ("tick", .int p.tick), ("seed", .int p.seed), ("shared", .ref l1), ("bodies", .ref l2), ("said", .ref l3), ("asked", .ref l4), ("leaving", .ref lv), ("number", .int num), ("other", .int other), ("side", .int side), ("told_inputs", .ref it)])) x = some (.ins cEffects dx [("game", .ref g), ("tick", .int p.tick), ("seed", .int p.seed), ("shared", .ref l1), ("bodies", .ref l2), ("said", .ref l3), ("asked", .ref l4), ("leaving", .ref lv), ("number", .int num), ("other", .int other), ("side", .int side), ("told_inputs", .ref it)]) := upd_same
  have d1 := q12.keep _ _ d1 f1
  have dl2 := q12.keep _ _ dl2 fl2
  have dl3 := q12.keep _ _ dl3 fl3
  have dl4 := q12.keep _ _ dl4 fl4
  have qz := q7.trans q12
  have es12 := qz.keep _ _ est stx
  show tSeq _ _ _ _ (upd H7 x (.ins cEffects dx [("game", .ref g), ("tick", .int p.tick), ("seed", .int p.seed), ("shared", .ref l1), ("bodies", .ref l2), ("said", .ref l3), ("asked", .ref l4), ("leaving", .ref lv), ("number", .int num), ("other", .int other), ("side", .int side), ("told_inputs", .ref it)]))
  generalize upd H7 x (.ins cEffects dx [("game", .ref g), ("tick", .int p.tick), ("seed", .int p.seed), ("shared", .ref l1), ("bodies", .ref l2), ("said", .ref l3), ("asked", .ref l4), ("leaving", .ref lv), ("number", .int num), ("other", .int other), ("side", .int side), ("told_inputs", .ref it)]) = H12 at q12 e12 d1 dl2 dl3 dl4 qz es12
  refine ⟨_, rfl, st, cStanding, _, _, _, rfl, es12, T.cl _ mem_cStanding, T.no (cStanding, "bodies") (by simp [noL]), rfl, _, rfl, bo, num, bvs, p.bs, rfl, qz.tup _ _ eb, hB.mono fun _ _ r => r.kp qz, fun H13 kp13 => ⟨fun i b' eb' hb' _ => ?_, fun hn => absurd enum (hn b (List.mem_of_getElem? eix))⟩⟩
  have ei : i = ix := num_inj hbo.asc eb' eix (hb'.trans enum.symm)
  subst ei
  have e13 := kp13.keep _ _ e12 id
  refine ⟨_, rfl, x, cEffects, dx, _, rfl, e13, T.cl _ mem_cEffects, nK "at" (by simp [noL]), (by show 12 < 1000; decide), ?_⟩
  refine ⟨_, rfl, x, cEffects, dx, _, rfl, upd_same, T.cl _ mem_cEffects, nK "fuel" (by simp [noL]), (by show 13 < 1000; decide), ?_⟩
  rw [upd_upd]
  have kw : Kp (fun a => a = x) H13 (upd H13 x (.ins cEffects dx [("game", .ref g), ("tick", .int p.tick), ("seed", .int p.seed), ("shared", .ref l1), ("bodies", .ref l2), ("said", .ref l3), ("asked", .ref l4), ("leaving", .ref lv), ("number", .int num), ("other", .int other), ("side", .int side), ("told_inputs", .ref it), ("at", .int (i : Nat)), ("fuel", .int 100)])) := Kp.rfl.set rfl (not_tup e13 trivial)
  have kf : Kp (fun a => a = x) H12 (upd H13 x (.ins cEffects dx [("game", .ref g), ("tick", .int p.tick), ("seed", .int p.seed), ("shared", .ref l1), ("bodies", .ref l2), ("said", .ref l3), ("asked", .ref l4), ("leaving", .ref lv), ("number", .int num), ("other", .int other), ("side", .int side), ("told_inputs", .ref it), ("at", .int (i : Nat)), ("fuel", .int 100)])) := (kp13.weak fun _ z => z.elim).trans kw
  have qa := qz.trans kf
  have ef : (upd H13 x (.ins cEffects dx [("game", .ref g), ("tick", .int p.tick), ("seed", .int p.seed), ("shared", .ref l1), ("bodies", .ref l2), ("said", .ref l3), ("asked", .ref l4), ("leaving", .ref lv), ("number", .int num), ("other", .int other), ("side", .int side), ("told_inputs", .ref it), ("at", .int (i : Nat)), ("fuel", .int 100)])) x = some (.ins cEffects dx [("game", .ref g), ("tick", .int p.tick), ("seed", .int p.seed), ("shared", .ref l1), ("bodies", .ref l2), ("said", .ref l3), ("asked", .ref l4), ("leaving", .ref lv), ("number", .int num), ("other", .int other), ("side", .int side), ("told_inputs", .ref it), ("at", .int (i : Nat)), ("fuel", .int 100)]) := upd_same
  refine k ⟨x, dx, l1, l2, l3, l4, g, gr, it, gdx, kt, bt⟩ (upd H13 x (.ins cEffects dx [("game", .ref g), ("tick", .int p.tick), ("seed", .int p.seed), ("shared", .ref l1), ("bodies", .ref l2), ("said", .ref l3), ("asked", .ref l4), ("leaving", .ref lv), ("number", .int num), ("other", .int other), ("side", .int side), ("told_inputs", .ref it), ("at", .int (i : Nat)), ("fuel", .int 100)])) qa rfl ⟨⟨lv, ef, qa.tup _ _ hp.lv⟩, kf.keep _ _ d1 f1, ⟨bvs, kf.keep _ _ dl2 fl2, hB.mono fun _ _ r => r.kp qa⟩, kf.keep _ _ dl3 fl3, ⟨avs, kf.keep _ _ dl4 fl4, hA.mono fun _ _ r => r.kp qa⟩, qa.tup _ _ eit, qa.keep _ _ eg gx, ⟨kvs, qa.tup _ _ ekt, ?_⟩, hgr.kp qa grx, ?_⟩ ?_
  · rw [hks.len]
    rfl
  · have hg : ∀ l : Addr, H l = none → l ≠ g ∧ l ≠ gr := fun l n => ⟨(fun z => by rw [z, eg] at n; cases n), (fun z => by
      obtain ⟨_, _, e, _⟩ := hgr
      rw [z, e] at n; cases n)⟩
    simp only [PA.all, List.nodup_cons, List.mem_cons, not_or, List.not_mem_nil, not_false_eq_true, and_true, List.nodup_nil]
    exact ⟨⟨f1.symm, fl2.symm, fl3.symm, fl4.symm, gx.symm, grx.symm⟩, ⟨xl1l2, xl1l3, xl1l4, (hg _ g1).1, (hg _ g1).2⟩, ⟨xl2l3, xl2l4, (hg _ gl2).1, (hg _ gl2).2⟩, ⟨xl3l4, (hg _ gl3).1, (hg _ gl3).2⟩, ⟨(hg _ gl4).1, (hg _ gl4).2⟩, gg⟩
  · rintro a (z | z | z | z | z)
    · exact .inl z
    · exact .inr (by rw [z]; exact g1)
    · exact .inr (by rw [z]; exact gl2)
    · exact .inr (by rw [z]; exact gl3)
    · exact .inr (by rw [z]; exact gl4)
end
end G
set_option Elab.async false
set_option linter.all false
set_option maxRecDepth 100000
set_option maxHeartbeats 4000000
namespace G
open PySem PySem.Spec PyProof.Rows L2
def spIsId : Sp := fun vs H Q _ => ∃ (bo : Addr) (us : List V) (bs : List Bod) (num : Int), vs = [.ref bo, .int num] ∧ H bo = some (.tup us) ∧ All2 (BoAt H) us bs ∧ bs.length ≤ 5 ∧ num ∈ bs.map (·.num) ∧ ∀ H', Kp M0 H H' → Q (.bl true) H'
def spInp : Sp := fun vs H Q _ => ∃ (g it : Addr) (pl : Int) (rows : List (List Nat)) (wd : Nat) (ks : List Kd) (inp : List Int), vs = [.ref g, .ref it] ∧ GaAt H g pl rows wd ks ∧ H it = some (.tup (inp.map V.int)) ∧ SetOk rows wd ks pl inp ∧ ∀ H', Kp M0 H H' → Q (.bl true) H'
def spChkInp : Sp := fun vs H Q _ => ∃ (g it : Addr) (pl : Int) (rows : List (List Nat)) (wd : Nat) (ks : List Kd) (inp : List Int), vs = [.ref g, .ref it] ∧ GaAt H g pl rows wd ks ∧ H it = some (.tup (inp.map V.int)) ∧ SetOk rows wd ks pl inp ∧ ∀ H', Kp M0 H H' → Q .non H'
def spPgOf : Sp := fun vs H Q _ => ∃ (g st : Addr) (pl num : Int) (rows : List (List Nat)) (wd : Nat) (ks : List Kd) (p : Pts) (ix : Nat) (b : Bod) (kd : Kd), vs = [.ref g, .ref st, .int num] ∧ GaAt H g pl rows wd ks ∧ StAt H st p ∧ BodsOk ks.length pl p.bs ∧ p.bs[ix]? = some b ∧ b.num = num ∧ ks[b.kind.toNat]? = some kd ∧
  ∀ u H', Kp M0 H H' → PoAt H' kd.hs u → Q u H'
def HlAt (H : Hp) : Option (List Sm) → V → Prop
  | none, v => v = .non
  | some l, v => BtAt H v l ∧ HdOk l
def spHlOf : Sp := fun vs H Q _ => ∃ (g st : Addr) (pl num : Int) (e : Ev) (rows : List (List Nat)) (wd : Nat) (ks : List Kd) (p : Pts) (ix : Nat) (b : Bod) (kd : Kd), vs = [.ref g, .ref st, .int num, .str e.str] ∧ GaAt H g pl rows wd ks ∧ StAt H st p ∧ BodsOk ks.length pl p.bs ∧ p.bs[ix]? = some b ∧ b.num = num ∧ ks[b.kind.toNat]? = some kd ∧
  ∀ u H', Kp M0 H H' → HlAt H' (hsOf kd e) u → Q u H'
def spRan : Sp := fun vs H Q _ => ∃ (g st it : Addr) (p : Pts) (rows : List (List Nat)) (wd : Nat) (ks : List Kd) (pl num : Int) (e : Ev) (other side : Int) (inp : List Int) (r : Nat), vs = [.ref g, .ref st, .int num, .str e.str, .int other, .int side, .ref it] ∧
  GaAt H g pl rows wd ks ∧ StAt H st p ∧ H it = some (.tup (inp.map V.int)) ∧ PtsOk ks.length pl r p ∧ r ≤ 15 ∧ SetOk rows wd ks pl inp ∧ num ∈ p.bs.map (·.num) ∧
  ∀ u H' p', Kp M0 H H' → DueR p rows wd ks pl num e other side inp p' → StAt H' u p' → Q (.ref u) H'
def spChk : Sp := fun vs H Q _ => ∃ (g st it : Addr) (p : Pts) (rows : List (List Nat)) (wd : Nat) (ks : List Kd) (pl num : Int) (inp : List Int), vs = [.ref g, .ref st, .int num, .ref it] ∧
  GaAt H g pl rows wd ks ∧ StAt H st p ∧ H it = some (.tup (inp.map V.int)) ∧ p.bs.length ≤ 5 ∧ SetOk rows wd ks pl inp ∧ num ∈ p.bs.map (·.num) ∧ ∀ H', Kp M0 H H' → Q .non H'
section
variable {P : Program} {w : World} {K : PySem.W.Frag} {mg : Str → Option Value} {base : Heap}
theorem scp_is_id : FnScope ["bodies", "thing", "body"] ["bodies", "thing"] (defScope sp_is_id) := ⟨rfl, rfl, rfl, by decide +kernel, rfl, by decide +kernel, by decide +kernel⟩
theorem ok_p_is_id (T : Tx w K mg) : Cal P w K mg base "is_id" 2 ["bodies", "thing"] spIsId := by
  obtain ⟨fd, F⟩ : ∃ fd, Fun K "is_id" "is_id" sp_is_id 420 fd := T.fn 24 _ rfl
  refine T.cal F 89 rfl (fun _ _ _ _ _ _ us hl => match us, hl with | [_, _], _ => rfl) ?_
  refine F.ok scp_is_id (fun vs H Q E h => ?_) (fun cdv A outer s H vs Q E hr h => ?_)
  · obtain ⟨bo, us, bs, num, rfl, _⟩ := h
    rfl
  obtain ⟨bo, us, bs, num, rfl, eb, hB, h5, hmem, k⟩ := h
  refine ⟨_, (pss_one (ps_ret (pe_and (pe_k (ok_p_is_integer T) (hr.mono (by decide)) (pa_cons (pv 1) pa_nil)) (pe_one (pe_cmpR op_in_seq (pv 1) (pe_lc (own := [("body", 2)]) (g := gName 2) (by rfl) scp_is_id.nd (pi_tup (pv 0)) (blkOk_by (own := [("body", 2)]) (N := ["bodies", "thing", "body"]) (sc := defScope sp_is_id) (by decide +kernel)) (fun _ _ _ _ _ => pg_name (i := 2) scp_is_id.nd rfl (Or.inl rfl)) (fun _ _ _ _ _ => pts_nil) (fun _ _ _ _ _ => (pe_ix (show IxR _ (rIxT K) from ix_tup) (pv 2) pe_int (fun _ _ => rfl)))) (by rfl)))))), ?_⟩
  have hl := hB.len
  refine ⟨_, rfl, num, rfl, _, rfl, iteT ?_⟩
  refine ⟨_, rfl, _, rfl, bo, rfl, ⟨_, SqT.of eb⟩, fun D nD => ?_⟩
  refine lc_tup (xs := us) (fun j H' => Kp M0 H H' ∧ H' D = some (.lst (((bs.take j).map (·.num)).map V.int)) ∧ j ≤ us.length) ?_ (fun i H' _ ⟨kp, _⟩ => SqT.of (kp.tup _ _ eb)) ?_ ?_
  · exact ⟨Kp.new nD, upd_same, Nat.zero_le _⟩
  · rintro j x Ha hx ⟨kpa, eD, hj⟩
    obtain ⟨b, eb', ⟨tb, cb, rfl, etb, _⟩⟩ := hB.getL hx
    have hjl := (List.getElem?_eq_some_iff.mp hx).1
    refine ⟨rfl, _, rfl, tb, _, 0, _, rfl, rfl, SqT.of (kpa.tup _ _ etb), rfl, _, eD, Nat.lt_of_le_of_lt (show _ ≤ 100 by rw [List.length_map, List.length_map, List.length_take]; omega) (by decide), kpa.priv nD, ?_, hjl⟩
    rw [upd_same, List.take_add_one, eb', List.map_append, List.map_append]
    rfl
  rintro Ha ⟨kpa, eD, hj⟩
  rw [show us.length = bs.length from hl, List.take_length] at eD
  refine ⟨D, _, rfl, .inl (SqL.of eD), rfl, flat_ints _, ?_⟩
  rw [inV_int, decide_eq_true hmem]
  exact k _ kpa
theorem scp_are_inputs : FnScope ["game", "thing", "item"] ["game", "thing"] (defScope sp_are_inputs) := ⟨rfl, rfl, rfl, by decide +kernel, rfl, by decide +kernel, by decide +kernel⟩
theorem ok_p_are_inputs (T : Tx w K mg) : Cal P w K mg base "are_inputs" 3 ["game", "thing"] spInp := by
  obtain ⟨fd, F⟩ : ∃ fd, Fun K "are_inputs" "are_inputs" sp_are_inputs 467 fd := T.fn 27 _ rfl
  refine T.cal F 95 rfl (fun _ _ _ _ _ _ us hl => match us, hl with | [_, _], _ => rfl) ?_
  refine F.ok scp_are_inputs (fun vs H Q E h => ?_) (fun cdv A outer s H vs Q E hr h => ?_)
  · obtain ⟨g, it, pl, rows, wd, ks, inp, rfl, _⟩ := h
    rfl
  obtain ⟨g, it, pl, rows, wd, ks, inp, rfl, ⟨gdx, gr, kt, bt, kvs, eg, hgr, ekt, hks⟩, eit, hset, k⟩ := h
  refine ⟨_, (pss_one (ps_ret (pe_and (pe_k (ok_p_is_sized T) (hr.mono (by decide)) (pa_cons (pv 1) (pa_cons (pe_fld (pv 0) rfl) (pa_cons (pe_fld (pv 0) rfl) pa_nil)))) (pe_one (pe_callB (cr_all rfl) rfl (fr_all T) (by decide +kernel) (pa_cons (pe_lc (own := [("item", 2)]) (g := gName 2) (by rfl) scp_are_inputs.nd (pi_tup (pv 1)) (blkOk_by (own := [("item", 2)]) (N := ["game", "thing", "item"]) (sc := defScope sp_are_inputs) (by decide +kernel)) (fun _ _ _ _ _ => pg_name (i := 2) scp_are_inputs.nd rfl (Or.inl rfl)) (fun _ _ _ _ _ => pts_nil) (fun _ _ _ _ _ => (pe_k (ok_p_is_within T) (hr.mono (by decide)) (pa_cons (pv 2) (pa_cons pe_int (pa_cons (gc T 91 (.int (255)) rfl) pa_nil)))))) pa_nil)))))), ?_⟩
  have h1 := hset.il
  have h4 := hset.p4
  refine ⟨_, rfl, _, rfl, g, cGame, _, _, _, rfl, eg, T.cl _ mem_cGame, T.no (cGame, "players") (by simp [noL]), rfl, _, rfl, g, cGame, _, _, _, rfl, eg, T.cl _ mem_cGame, T.no (cGame, "players") (by simp [noL]), rfl, it, inp.map V.int, pl, pl, rfl, SqT.of eit, by rw [List.length_map]; omega, by rw [List.length_map]; omega, _, rfl, iteT ?_⟩
  refine ⟨_, rfl, it, rfl, ⟨_, SqT.of eit⟩, fun D nD => ?_⟩
  refine lc_tup (xs := inp.map V.int) (fun j H' => Kp M0 H H' ∧ H' D = some (.lst ((List.replicate j true).map V.bl))) ⟨Kp.new nD, upd_same⟩ (fun i H' _ ⟨kp, _⟩ => SqT.of (kp.tup _ _ eit)) ?_ ?_
  · rintro j x Hj hj ⟨kpj, e2⟩
    obtain ⟨m, em, rfl⟩ : ∃ m : Int, inp[j]? = some m ∧ V.int m = x := by
      rw [List.getElem?_map] at hj
      cases q : inp[j]? with
      | none => rw [q] at hj; cases hj
      | some m => rw [q] at hj; exact ⟨m, rfl, Option.some.inj hj⟩
    have hm := hset.ib m (List.mem_of_getElem? em)
    have jl := (List.getElem?_eq_some_iff.mp em).1
    refine ⟨rfl, _, rfl, m, 0, 255, rfl, hm.1, hm.2, _, e2, Nat.lt_of_le_of_lt (show _ ≤ 100 by rw [List.length_map, List.length_replicate]; omega) (by decide), kpj.priv nD, ?_⟩
    rw [upd_same, List.replicate_succ', List.map_append]
    rfl
  rintro Hj ⟨kpj, e2⟩
  refine ⟨D, _, rfl, SqL.of e2, ?_⟩
  rw [reps_true]
  exact k _ kpj
theorem scp_check_inputs : FnScope ["game", "thing"] ["game", "thing"] (defScope sp_check_inputs) := ⟨rfl, rfl, rfl, by decide +kernel, rfl, by decide +kernel, by decide +kernel⟩
theorem ok_p_check_inputs (T : Tx w K mg) : Cal P w K mg base "check_inputs" 4 ["game", "thing"] spChkInp := by
  obtain ⟨fd, F⟩ : ∃ fd, Fun K "check_inputs" "check_inputs" sp_check_inputs 474 fd := T.fn 28 _ rfl
  refine T.cal F 96 rfl (fun _ _ _ _ _ _ us hl => match us, hl with | [_, _], _ => rfl) ?_
  refine F.ok scp_check_inputs (fun vs H Q E h => ?_) (fun cdv A outer s H vs Q E hr h => ?_)
  · obtain ⟨g, it, pl, rows, wd, ks, inp, rfl, _⟩ := h
    rfl
  obtain ⟨g, it, pl, rows, wd, ks, inp, rfl, hg, eit, hset, k⟩ := h
  refine ⟨_, (pss_one (ps_if (pt_not (pt_val (pe_k (ok_p_are_inputs T) (hr.mono (by decide)) (pa_cons (pv 0) (pa_cons (pv 1) pa_nil))))) (pss_one ps_never) pss_nil)), ?_⟩
  exact ⟨_, rfl, _, rfl, g, it, pl, rows, wd, ks, inp, rfl, hg, eit, hset, fun H' kp => ⟨_, rfl, iteF (k _ kp)⟩⟩
theorem scp_program_of : FnScope ["game", "standing", "number", "kinds", "body"] ["game", "standing", "number"] (defScope sp_program_of) := ⟨rfl, rfl, rfl, by decide +kernel, rfl, by decide +kernel, by decide +kernel⟩
theorem ok_p_program_of (T : Tx w K mg) : Cal P w K mg base "program_of" 1 ["game", "standing", "number"] spPgOf := by
  obtain ⟨fd, F⟩ : ∃ fd, Fun K "program_of" "program_of" sp_program_of 673 fd := T.fn 55 _ rfl
  refine T.cal F 114 rfl (fun _ _ _ _ _ _ us hl => match us, hl with | [_, _, _], _ => rfl) ?_
  refine F.ok scp_program_of (fun vs H Q E h => ?_) (fun cdv A outer s H vs Q E hr h => ?_)
  · obtain ⟨g, st, pl, num, rows, wd, ks, p, ix, b, kd, rfl, _⟩ := h
    rfl
  obtain ⟨g, st, pl, num, rows, wd, ks, p, ix, b, kd, rfl, ⟨gdx, gr, kt, bt, kvs, eg, hgr, ekt, hks⟩, ⟨sdx, sh, bo, sa, as, lv, est, hp⟩, hbo, eix, hbn, ekd, k⟩ := h
  refine ⟨_, (pss_cons (ps_setLc (i := 3) (own := [("body", 4)]) (g := gName 4) (by rfl) scp_program_of.nd rfl rfl (sw_true rfl rfl rfl (by decide +kernel)) (pi_tup (pe_fld (pv 1) rfl)) (blkOk_by (own := [("body", 4)]) (N := ["game", "standing", "number", "kinds", "body"]) (sc := defScope sp_program_of) (by decide +kernel)) (fun _ _ _ _ _ => pg_name (i := 4) scp_program_of.nd rfl (Or.inl rfl)) (fun _ _ _ _ _ => (pts_one (pt_cmpR op_eq (pe_ix (show IxR _ (rIxT K) from ix_tup) (pv 4) pe_int (fun _ _ => rfl)) (pv 2) (nomark _)))) (fun _ _ _ _ _ => (pe_ix (show IxR _ (rIxT K) from ix_tup) (pv 4) pe_int (fun _ _ => rfl))))
    (pss_one (ps_ret (pe_fld (pe_ix ix_tup (pe_fld (pv 0) rfl) (pe_ix ix_list (pv 3) pe_int (fun _ _ => rfl)) (fun _ _ => rfl)) rfl)))), ?_⟩
  obtain ⟨bvs, eb, hB⟩ := hp.bo
  have hbl := hB.len
  refine ⟨_, rfl, st, cStanding, _, _, _, rfl, est, T.cl _ mem_cStanding, T.no (cStanding, "bodies") (by simp [noL]), rfl, bo, rfl, ⟨_, SqT.of eb⟩, fun D nD => ?_⟩
  refine lc_tup (xs := bvs) (fun j Hj => Kp M0 H Hj ∧ Hj D = some (.lst (if ix < j then [V.int b.kind] else []))) ?_ (fun i Hj _ ⟨kp, _⟩ => SqT.of (kp.tup _ _ eb)) ?_ ?_
  · exact ⟨Kp.new nD, by rw [if_neg (Nat.not_lt_zero _)]; exact upd_same⟩
  · rintro j x Hj hj ⟨kpj, eD⟩
    obtain ⟨bj, ebj, ⟨tb, cb, rfl, etb, _⟩⟩ := hB.getL hj
    have etj := kpj.tup _ _ etb
    refine ⟨rfl, _, rfl, tb, _, 0, _, rfl, rfl, SqT.of etj, rfl, _, rfl, rfl, _, rfl, hit (fun cc => ?_) (fun cc => ?_)⟩
    · have c' : bj.num = num := by
        have := of_decide_eq_true cc
        simpa using this
      have ej := num_inj hbo.asc ebj eix (c'.trans hbn.symm)
      subst ej
      rw [eix] at ebj
      cases ebj
      rw [if_neg (Nat.lt_irrefl _)] at eD
      refine ⟨_, rfl, tb, _, 1, _, rfl, rfl, SqT.of etj, rfl, [], eD, (by show 0 < sizeLine; decide), kpj.priv nD, ?_⟩
      rw [upd_same, if_pos (Nat.lt_succ_self _)]
      rfl
    · have c' : bj.num ≠ num := fun z => by
        rw [z] at cc
        exact absurd cc (by simp)
      refine ⟨kpj, ?_⟩
      have nj : ix ≠ j := fun z => by
        rw [← z, eix] at ebj
        cases ebj
        exact c' hbn
      rw [eD]
      by_cases q : ix < j
      · rw [if_pos q, if_pos (by omega)]
      · rw [if_neg q, if_neg (by omega)]
  rintro H1 ⟨kp1, eD⟩
  rw [if_pos (by rw [hbl]; exact (List.getElem?_eq_some_iff.mp eix).1)] at eD
  obtain ⟨kv, ekv, a, kdx, u, rfl, ea, hpo⟩ := hks.get ekd
  have hb0 := (hbo.all b (List.mem_of_getElem? eix)).k0
  have eg1 := kp1.keep _ _ eg id
  have ea1 := kp1.keep _ _ ea id
  exact ⟨_, rfl, g, cGame, _, _, _, rfl, eg1, T.cl _ mem_cGame, T.no (cGame, "kinds") (by simp [noL]), rfl, _, rfl, D, _, 0, _, rfl, rfl, SqL.of eD, rfl, kt, kvs, b.kind, _, rfl, rfl, SqT.of (kp1.tup _ _ ekt), atI_of (j := b.kind.toNat) (by omega) ekv, a, cKind, _, _, _, rfl, ea1, T.cl _ mem_cKind, T.no (cKind, "program") (by simp [noL]), rfl, k _ _ kp1 (hpo.kp0 kp1)⟩
theorem scp_handler_of : FnScope ["game", "standing", "number", "word", "program"] ["game", "standing", "number", "word"] (defScope sp_handler_of) := ⟨rfl, rfl, rfl, by decide +kernel, rfl, by decide +kernel, by decide +kernel⟩
theorem ok_p_handler_of (T : Tx w K mg) : Cal P w K mg base "handler_of" 2 ["game", "standing", "number", "word"] spHlOf := by
  obtain ⟨fd, F⟩ : ∃ fd, Fun K "handler_of" "handler_of" sp_handler_of 680 fd := T.fn 56 _ rfl
  refine T.cal F 115 rfl (fun _ _ _ _ _ _ us hl => match us, hl with | [_, _, _, _], _ => rfl) ?_
  refine F.ok scp_handler_of (fun vs H Q E h => ?_) (fun cdv A outer s H vs Q E hr h => ?_)
  · obtain ⟨g, st, pl, num, e, rows, wd, ks, p, ix, b, kd, rfl, _⟩ := h
    rfl
  obtain ⟨g, st, pl, num, e, rows, wd, ks, p, ix, b, kd, rfl, hG, hS, hbo, eix, hbn, ekd, k⟩ := h
  have hu := hu_of hr
  have hu := hu_of hr
  refine ⟨_, (pss_cons (ps_set (i := 4) scp_handler_of.nd rfl (Or.inl rfl) (pe_k (ok_p_program_of T) (hr.mono (by decide)) (pa_cons (pv 0) (pa_cons (pv 1) (pa_cons (pv 2) pa_nil)))))
    (pss_one (ps_ret (pe_ifExp (pt_cmpR op_isN (pv 4) pe_non (nomark _)) pe_non (pe_dget2 hu (pe_fld (pv 4) rfl) (pv 3) pe_non ⟨rfl, by rfl, by rfl, by rfl⟩))))), ?_⟩
  refine ⟨_, rfl, _, rfl, _, rfl, g, st, pl, num, rows, wd, ks, p, ix, b, kd, rfl, hG, hS, hbo, eix, hbn, ekd, fun u H1 kp1 hpo => ?_⟩
  unfold hsOf at k
  cases q : kd.hs with
  | none =>
    rw [q] at hpo
    cases (show u = .non from hpo)
    rw [q] at k
    exact ⟨_, rfl, rfl, _, rfl, iteT (k _ _ kp1 rfl)⟩
  | some f =>
    rw [q] at hpo k
    obtain ⟨pa, rfl, pdx, d, mc, ep, kvs, ed, _, _, hvs⟩ := hpo
    have hv := hvs e
    refine ⟨_, rfl, rfl, _, rfl, hit (fun c => nomatch of_decide_eq_true c) (fun _ => ?_)⟩
    refine ⟨_, rfl, pa, cProgram, _, _, _, rfl, ep, T.cl _ mem_cProgram, T.no (cProgram, "handlers") (by simp [noL]), rfl, d, rfl, (.inl ⟨_, .inl ed⟩), _, rfl, _, dget_of ed _, ?_⟩
    cases q2 : f e with
    | none =>
      rw [q2] at hv
      rw [show valV kvs (Sum.inr e.str) = none from hv]
      refine k _ _ kp1 ?_
      show HlAt H1 (f e) _
      rw [q2]
      rfl
    | some l =>
      rw [q2] at hv
      obtain ⟨t, xs, e1, e2, e3, e4⟩ := hv
      rw [e1]
      refine k _ _ kp1 ?_
      show HlAt H1 (f e) _
      rw [q2]
      exact ⟨⟨t, xs, rfl, e2, e3⟩, e4⟩
theorem scp_run_handler : FnScope ["game", "standing", "number", "word", "other", "side", "inputs", "body", "effects"] ["game", "standing", "number", "word", "other", "side", "inputs"] (defScope sp_run_handler) := ⟨rfl, rfl, rfl, by decide +kernel, rfl, by decide +kernel, by decide +kernel⟩
theorem ok_p_run_handler (T : Tx w K mg) : Cal P w K mg base "run_handler" 33 ["game", "standing", "number", "word", "other", "side", "inputs"] spRan := by
  obtain ⟨fd, F⟩ : ∃ fd, Fun K "run_handler" "run_handler" sp_run_handler 687 fd := T.fn 57 _ rfl
  refine T.cal F 116 rfl (fun _ _ _ _ _ _ us hl => match us, hl with | [_, _, _, _, _, _, _], _ => rfl) ?_
  refine F.ok scp_run_handler (fun vs H Q E h => ?_) (fun cdv A outer s H vs Q E hr h => ?_)
  · obtain ⟨g, st, it, p, rows, wd, ks, pl, num, e, other, side, inp, r, rfl, _⟩ := h
    rfl
  obtain ⟨g, st, it, p, rows, wd, ks, pl, num, e, other, side, inp, r, rfl, hG, hS, eit, hok, hr15, hset, hmem, k⟩ := h
  refine ⟨_, (pss_cons (ps_set (i := 7) scp_run_handler.nd rfl (Or.inl rfl) (pe_k (ok_p_handler_of T) (hr.mono (by decide)) (pa_cons (pv 0) (pa_cons (pv 1) (pa_cons (pv 2) (pa_cons (pv 3) pa_nil))))))
    (pss_cons (ps_if (pt_cmpR op_isN (pv 7) pe_non (nomark _)) (pss_one (ps_ret (pv 1))) pss_nil)
    (pss_cons (ps_set (i := 8) scp_run_handler.nd rfl (Or.inl rfl) (pe_i (ok_m_Effects_init T) (hr.mono (by decide)) (pa_cons (pv 0) (pa_cons (pv 1) (pa_cons (pv 2) (pa_cons (pv 4) (pa_cons (pv 5) (pa_cons (pv 6) pa_nil))))))))
    (pss_cons (ps_expr (pe_k (ok_p_do_body T 5) (hr.mono (by decide)) (pa_cons (pv 8) (pa_cons (pv 7) pa_nil))))
    (pss_one (ps_ret (pe_m0 (ok_m_Effects_standing T) (T.cl cEffects mem_cEffects) (hr.mono (by decide)) (pv 8)))))))), ?_⟩
  obtain ⟨b, hbm, hbn⟩ := List.mem_map.mp hmem
  obtain ⟨ix, eix⟩ := List.getElem?_of_mem hbm
  have hbo := hok.bs.all b hbm
  obtain ⟨kd, ekd⟩ : ∃ kd, ks[b.kind.toNat]? = some kd := ⟨ks[b.kind.toNat]'(by have h1 := hbo.k0; have h2 := hbo.k1; omega), List.getElem?_eq_getElem _⟩
  refine ⟨_, rfl, _, rfl, _, rfl, _, rfl, g, st, pl, num, e, rows, wd, ks, p, ix, b, kd, rfl, hG, hS, hok.bs, eix, hbn, ekd, fun u H1 kp1 hl => ?_⟩
  cases q : hsOf kd e with
  | none =>
    rw [q] at hl
    cases (show u = .non from hl)
    exact ⟨_, rfl, rfl, _, rfl, iteT ⟨_, rfl, k _ _ p kp1 ⟨ix, b, kd, eix, hbn, ekd, .inl ⟨q, rfl⟩⟩ (hS.kp0 kp1)⟩⟩
  | some l =>
    rw [q] at hl
    obtain ⟨⟨t, xs, rfl, et, hbd⟩, hh⟩ := hl
    refine ⟨_, rfl, rfl, _, rfl, hit (fun c => nomatch of_decide_eq_true c) (fun _ => ?_)⟩
    refine ⟨_, rfl, _, rfl, _, rfl, _, rfl, _, rfl, _, rfl, fun x dx nx ndx nexx => ?_⟩
    have kI : Kp M0 H1 (upd (upd H1 dx (.own x)) x (.ins cEffects dx [])) := Kp.priv (Kp.new ndx) nx
    have k01 := kp1.trans kI
    refine ⟨x, dx, g, st, it, p, rows, wd, ks, pl, num, other, side, inp, ix, b, rfl, upd_same, hG.kp0 k01, hS.kp0 k01, k01.tup _ _ eit, hok.bs, eix, hbn, fun A H2 kp2 eAx hD hfr => ⟨rfl, ?_⟩⟩
    subst eAx
    have kM := Kp.made nx ndx rfl kp2
    have ws := st0_wf (rows := rows) (wd := wd) (other := other) (side := side) (inp := inp) hok eix hbn
    have wc := cfg_wf (num := num) (other := other) (side := side) (ix := ix) hok hr15 hset
    refine ⟨_, rfl, _, rfl, A, _, _, .ref t, l, rfl, hD, ws, wc, ⟨t, xs, rfl, kM.tup _ _ et, BdAt.kp kM _ _ hbd⟩, hh.1, hh.2.2.2.1, fun b2 s' H3 hrr kp3 hD3 => ?_⟩
    obtain ⟨lv3, ex3, _⟩ := hD3.x
    refine ⟨_, rfl, A.x, A.dx, _, rfl, ex3, rfl, A, _, s', rfl, hD3, fun u H4 kp4 hs4 => ?_⟩
    have k13 : Kp M0 H1 H3 := kM.then kp3 fun a m => .inr (by
      rcases hfr a m with z | z
      · rw [z]
        exact nx
      · cases q9 : H1 a with
        | none => rfl
        | some o => rw [kI.keep _ _ q9 id] at z; cases z)
    exact k _ _ _ (kp1.trans (k13.trans kp4)) ⟨ix, b, kd, eix, hbn, ekd, .inr ⟨l, b2, s', q, hrr, rfl⟩⟩ hs4
theorem scp_check_call : FnScope ["game", "standing", "number", "inputs"] ["game", "standing", "number", "inputs"] (defScope sp_check_call) := ⟨rfl, rfl, rfl, by decide +kernel, rfl, by decide +kernel, by decide +kernel⟩
theorem ok_p_check_call (T : Tx w K mg) : Cal P w K mg base "check_call" 5 ["game", "standing", "number", "inputs"] spChk := by
  obtain ⟨fd, F⟩ : ∃ fd, Fun K "check_call" "check_call" sp_check_call 694 fd := T.fn 58 _ rfl
  refine T.cal F 117 rfl (fun _ _ _ _ _ _ us hl => match us, hl with | [_, _, _, _], _ => rfl) ?_
  refine F.ok scp_check_call (fun vs H Q E h => ?_) (fun cdv A outer s H vs Q E hr h => ?_)
  · obtain ⟨g, st, it, p, rows, wd, ks, pl, num, inp, rfl, _⟩ := h
    rfl
  obtain ⟨g, st, it, p, rows, wd, ks, pl, num, inp, rfl, hG, ⟨sdx, sh, bo, sa, as, lv, est, hp⟩, eit, h5, hset, hmem, k⟩ := h
  refine ⟨_, (pss_cons (ps_if (pt_not (pt_val (pe_k (ok_p_is_id T) (hr.mono (by decide)) (pa_cons (pe_fld (pv 1) rfl) (pa_cons (pv 2) pa_nil))))) (pss_one ps_never) pss_nil)
    (pss_one (ps_expr (pe_k (ok_p_check_inputs T) (hr.mono (by decide)) (pa_cons (pv 0) (pa_cons (pv 3) pa_nil)))))), ?_⟩
  obtain ⟨bvs, eb, hB⟩ := hp.bo
  refine ⟨_, rfl, st, cStanding, _, _, _, rfl, est, T.cl _ mem_cStanding, T.no (cStanding, "bodies") (by simp [noL]), rfl, _, rfl, bo, bvs, p.bs, num, rfl, eb, hB, h5, hmem, fun H1 kp1 => ⟨_, rfl, iteF ?_⟩⟩
  exact ⟨_, rfl, _, rfl, g, it, pl, rows, wd, ks, inp, rfl, hG.kp0 kp1, kp1.tup _ _ eit, hset, fun H2 kp2 => k _ (kp1.trans kp2)⟩
theorem scp_ran : FnScope ["game", "standing", "number", "word", "other", "side", "inputs"] ["game", "standing", "number", "word", "other", "side", "inputs"] (defScope sp_ran) := ⟨rfl, rfl, rfl, by decide +kernel, rfl, by decide +kernel, by decide +kernel⟩
theorem ok_p_ran (T : Tx w K mg) : Cal P w K mg base "ran" 34 ["game", "standing", "number", "word", "other", "side", "inputs"] spRan := by
  obtain ⟨fd, F⟩ : ∃ fd, Fun K "ran" "ran" sp_ran 701 fd := T.fn 59 _ rfl
  refine T.cal F 118 rfl (fun _ _ _ _ _ _ us hl => match us, hl with | [_, _, _, _, _, _, _], _ => rfl) ?_
  refine F.ok scp_ran (fun vs H Q E h => ?_) (fun cdv A outer s H vs Q E hr h => ?_)
  · obtain ⟨g, st, it, p, rows, wd, ks, pl, num, e, other, side, inp, r, rfl, _⟩ := h
    rfl
  obtain ⟨g, st, it, p, rows, wd, ks, pl, num, e, other, side, inp, r, rfl, hG, hS, eit, hok, hr15, hset, hmem, k⟩ := h
  refine ⟨_, (pss_cons (ps_expr (pe_k (ok_p_check_call T) (hr.mono (by decide)) (pa_cons (pv 0) (pa_cons (pv 1) (pa_cons (pv 2) (pa_cons (pv 6) pa_nil))))))
    (pss_one (ps_ret (pe_k (ok_p_run_handler T) (hr.mono (by decide)) (pa_cons (pv 0) (pa_cons (pv 1) (pa_cons (pv 2) (pa_cons (pv 3) (pa_cons (pv 4) (pa_cons (pv 5) (pa_cons (pv 6) pa_nil))))))))))), ?_⟩
  refine ⟨_, rfl, _, rfl, _, rfl, _, rfl, g, st, it, p, rows, wd, ks, pl, num, inp, rfl, hG, hS, eit, hok.bs.len, hset, hmem, fun H1 kp1 => ?_⟩
  exact ⟨_, rfl, _, rfl, _, rfl, _, rfl, _, rfl, _, rfl, _, rfl, g, st, it, p, rows, wd, ks, pl, num, e, other, side, inp, r, rfl, hG.kp0 kp1, hS.kp0 kp1, kp1.tup _ _ eit, hok, hr15, hset, hmem, fun u H2 p' kp2 hd hs => k _ _ _ (kp1.trans kp2) hd hs⟩
end
end G
set_option Elab.async false
set_option linter.all false
set_option maxRecDepth 100000
set_option maxHeartbeats 4000000
namespace G
open PySem PySem.Spec PyProof.Rows L2
theorem op_isBl2 {X : Cx} : OpR X (compareOp .Is) (fun x y H Q => ∃ b, y = .bl b ∧ (∀ c, x ≠ .bl c) ∧ Q (.bl false) H) := by
  intro pins s σ H x y v u Q I rx ry h
  obtain ⟨b, rfl, hn, q⟩ := h
  cases ry
  have eq_ : ∀ {z : Value}, plainIs z (.bool b) = true → (z == Value.bool b) = false → wpAny (model X.prog X.w) X.A (isSame z (.bool b)) (fun t s' => wpAny (model X.prog X.w) X.A (pure (Value.bool t)) (EP X pins σ Q) X.xe s') X.xe s := fun h1 h2 => wpAny_isSame_plain h1 (by rw [h2]; exact wpAny_pure (fin_bl I q rfl))
  show wpAny _ _ ((isSame v (Value.bool b)) >>= fun z => pure (Value.bool z)) _ _ s
  refine wpAny_bind ?_
  cases x with
  | ref a => cases rx; exact eq_ rfl rfl
  | non => cases rx; exact eq_ rfl rfl
  | bl c => exact absurd rfl (hn c)
  | int i => obtain ⟨t, rfl⟩ := rx; exact eq_ rfl rfl
  | str x => obtain ⟨t, rfl⟩ := rx; exact eq_ rfl rfl
  | byt x => obtain ⟨t, rfl⟩ := rx; exact eq_ rfl rfl
  | flt x => obtain ⟨t, rfl⟩ := rx; exact eq_ rfl rfl
  | ty n => cases rx; exact eq_ rfl rfl
/-- the same data, tuples of tuples of whole numbers -/
def SmV (H : Hp) : Nat → V → V → Prop
  | 0, _, _ => False
  | k + 1, v, u => (∃ n : Int, v = .int n ∧ u = .int n) ∨ ∃ a b xs ys, v = .ref a ∧ u = .ref b ∧ H a = some (.tup xs) ∧ H b = some (.tup ys) ∧ xs.length ≤ 1000 ∧ All2 (SmV H k) xs ys
theorem SmV.kp {M : Addr → Prop} {H H' : Hp} (kp : Kp M H H') : ∀ {k : Nat} {v u : V}, SmV H k v u → SmV H' k v u
  | 0, _, _, h => h.elim
  | k + 1, v, u, h => by
    rcases h with ⟨n, e1, e2⟩ | ⟨a, b, xs, ys, e1, e2, e3, e4, hl, e5⟩
    · exact .inl ⟨n, e1, e2⟩
    · exact .inr ⟨a, b, xs, ys, e1, e2, kp.tup _ _ e3, kp.tup _ _ e4, hl, e5.mono fun _ _ q => SmV.kp kp q⟩
theorem smI {H : Hp} {k : Nat} (n : Int) : SmV H (k + 1) (.int n) (.int n) := .inl ⟨n, rfl, rfl⟩
theorem all2_ints {H : Hp} {k : Nat} : ∀ l : List Int, All2 (SmV H (k + 1)) (l.map V.int) (l.map V.int)
  | [] => trivial
  | n :: r => ⟨smI n, all2_ints r⟩
theorem smT {H : Hp} {k : Nat} {a b : Addr} {l : List Int} (h1 : H a = some (.tup (l.map V.int))) (h2 : H b = some (.tup (l.map V.int))) (hl : l.length ≤ 1000) : SmV H (k + 2) (.ref a) (.ref b) :=
  .inr ⟨a, b, _, _, rfl, rfl, h1, h2, by rw [List.length_map]; exact hl, all2_ints l⟩
theorem all2_both {α : Type} {R S : V → α → Prop} {T : V → V → Prop} : ∀ (l : List α) {xs ys : List V}, (∀ x y a, a ∈ l → R x a → S y a → T x y) → All2 R xs l → All2 S ys l → All2 T xs ys := by
  intro l
  induction l with
  | nil =>
    intro xs ys _ h g
    cases xs with
    | nil => cases ys with
      | nil => trivial
      | cons _ _ => exact g.elim
    | cons _ _ => exact h.elim
  | cons b r ih =>
    intro xs ys f h g
    cases xs with
    | nil => exact h.elim
    | cons x xs => cases ys with
      | nil => exact g.elim
      | cons y ys => exact ⟨f _ _ _ (List.mem_cons_self ..) h.1 g.1, ih (fun x y a m => f x y a (List.mem_cons_of_mem _ m)) h.2 g.2⟩
theorem smB {H : Hp} {v u : V} {b : Bod} (h : BoAt H v b) (g : BoAt H u b) (hl : b.cells.length ≤ 1000) : SmV H 3 v u := by
  obtain ⟨t, c, rfl, h1, h2⟩ := h
  obtain ⟨t', c', rfl, g1, g2⟩ := g
  exact .inr ⟨t, t', _, _, rfl, rfl, h1, g1, by show 8 ≤ 1000; decide, smI _, smI _, smI _, smI _, smI _, smI _, smI _, smT h2 g2 hl, trivial⟩
theorem smP {H : Hp} {v u : V} {p : Pts} {nk pl : Int} {r : Nat} (ok : PtsOk nk pl r p) (hr : r ≤ 20) (h : PtsAt H v p) (g : PtsAt H u p) : SmV H 5 v u := by
  obtain ⟨t, sh, bo, sa, as, lv, rfl, ht, h1, ⟨bv, h2, h3⟩, h4, ⟨av, h5, h6⟩, h7⟩ := h
  obtain ⟨t', sh', bo', sa', as', lv', rfl, gt, g1, ⟨bv', g2, g3⟩, g4, ⟨av', g5, g6⟩, g7⟩ := g
  have hsh := ok.sh
  have hsa := ok.sa
  have has := ok.as
  have hlv := ok.lv
  have hbs := ok.bs.len
  have l3 := h3.len
  have l6 := h6.len
  have hc : ∀ b ∈ p.bs, b.cells.length ≤ 1000 := fun b hb => by rw [(ok.bs.all b hb).cl]; decide
  refine .inr ⟨t, t', _, _, rfl, rfl, ht, gt, by show 7 ≤ 1000; decide, smI _, smI _, smT h1 g1 (by omega), .inr ⟨bo, bo', _, _, rfl, rfl, h2, g2, by omega, all2_both (R := BoAt H) (S := BoAt H) p.bs (fun x y b m q1 q2 => smB q1 q2 (hc b m)) h3 g3⟩, smT h4 g4 (by omega), .inr ⟨as, as', _, _, rfl, rfl, h5, g5, by omega, ?_⟩, smT h7 g7 (by omega), trivial⟩
  exact all2_both (R := AsAt H) (S := AsAt H) p.asked (fun x y l _ q1 q2 => by
    obtain ⟨q0, a, rfl, q3⟩ := q1
    obtain ⟨_, b, rfl, q4⟩ := q2
    exact smT q3 q4 (by omega)) h6 g6
def spIsIntL : Sp := fun vs H Q _ => ∃ i : Int, vs = [.int i] ∧ Q (.bl true) H
def spSame (n : Nat) : Sp := fun vs H Q _ => ∃ (v u : V), vs = [v, u] ∧ SmV H n v u ∧ ∀ H', Kp M0 H H' → Q (.bl true) H'
def spHandL (K : PySem.W.Frag) : Sp := fun vs H Q _ => ∃ (a : Addr) (ns : List Int), vs = [.ref a] ∧ SqL K H a (ns.map V.int) ∧ ∀ h sc H', Kp M0 H H' → Hand H' h sc → Q (.ref h) H'
def spStOf : Sp := fun vs H Q _ => ∃ (v : V) (p : Pts), vs = [v] ∧ PtsAt H v p ∧ ∀ u H', Kp M0 H H' → StAt H' u p → Q (.ref u) H'
def spStSame : Sp := fun vs H Q _ => ∃ (st : Addr) (v : V) (p : Pts) (nk pl : Int) (r : Nat), vs = [.ref st, v] ∧ StAt H st p ∧ PtsAt H v p ∧ PtsOk nk pl r p ∧ r ≤ 20 ∧ ∀ H', Kp M0 H H' → Q (.bl true) H'
section
variable {P : Program} {w : World} {K : PySem.W.Frag} {mg : Str → Option Value} {base : Heap}
theorem scl_is_integer : FnScope ["_law_thing"] ["_law_thing"] (defScope sl_is_integer) := ⟨rfl, rfl, rfl, by decide +kernel, rfl, by decide +kernel, by decide +kernel⟩
theorem ok_l_is_integer (T : Tx w K mg) : Cal P w K mg base "_law_is_integer" 1 ["_law_thing"] spIsIntL := by
  obtain ⟨fd, F⟩ : ∃ fd, Fun K "_law_is_integer" "_law_is_integer" sl_is_integer 750 fd := T.fn 66 _ rfl
  refine T.cal F 125 rfl (fun _ _ _ _ _ _ us hl => match us, hl with | [_], _ => rfl) ?_
  refine F.ok scl_is_integer (fun vs H Q E h => ?_) (fun cdv A outer s H vs Q E hr h => ?_)
  · obtain ⟨i, rfl, _⟩ := h
    rfl
  obtain ⟨i, rfl, k⟩ := h
  refine ⟨_, (pss_one (ps_ret (pe_and (pe_callB call_isi rfl (fr_isinstance T) (by decide +kernel) (pa_cons (pv 0) (pa_cons (pe_bltn (v := .ty "int") rfl (fr_int T) (by decide +kernel) rfl) pa_nil))) (pe_one (pe_not (pe_callB call_isi rfl (fr_isinstance T) (by decide +kernel) (pa_cons (pv 0) (pa_cons (pe_bltn (v := .ty "bool") rfl (fr_bool T) (by decide +kernel) rfl) pa_nil)))))))), ?_⟩
  refine ⟨_, rfl, .int i, .ty "int", .type "int", .type "int", true, rfl, .ty _, .base (.int i), kit_ty (by decide +kernel), _, rfl, ?_⟩
  exact iteT ⟨_, rfl, .int i, .ty "bool", .type "int", .type "bool", false, rfl, .ty _, .base (.int i), kit_ty (by decide +kernel), _, rfl, k⟩
theorem scl_hand : FnScope ["_law_script"] ["_law_script"] (defScope sl_hand) := ⟨rfl, rfl, rfl, by decide +kernel, rfl, by decide +kernel, by decide +kernel⟩
theorem ok_l_hand (T : Tx w K mg) : Cal P w K mg base "_law_hand" 1 ["_law_script"] (spHandL K) := by
  obtain ⟨fd, F⟩ : ∃ fd, Fun K "_law_hand" "_law_hand" sl_hand 708 fd := T.fn 60 _ rfl
  refine T.cal F 119 rfl (fun _ _ _ _ _ _ us hl => match us, hl with | [_], _ => rfl) ?_
  refine F.ok scl_hand (fun vs H Q E h => ?_) (fun cdv A outer s H vs Q E hr h => ?_)
  · obtain ⟨a, ns, rfl, _⟩ := h
    rfl
  obtain ⟨a, ns, rfl, hS, k⟩ := h
  refine ⟨_, (pss_one (ps_ret (pe_lst (pa_cons (pe_callTy call_list_of rfl (fr_list T) (by decide +kernel) (pa_cons (pv 0) pa_nil)) (pa_cons pe_int (pa_cons pe_int (pa_cons pe_int (pa_cons pe_int pa_nil)))))))), ?_⟩
  refine ⟨_, rfl, a, _, rfl, .inl hS, fun l nl => ⟨(by show 5 ≤ sizeLine; decide), fun h nh => ?_⟩⟩
  have k1 := Kp.new (M := M0) (o := .lst (ns.map V.int)) nl
  have k2 := Kp.new (M := M0) (o := .lst [.ref l, .int 0, .int 0, .int 1, .int 0]) nh
  exact k h l _ (k1.trans k2) ⟨⟨ns, 0, 0, 1, 0, upd_same, k2.keep _ _ upd_same id, by decide, by decide⟩, ne_of_none upd_same nh⟩
theorem scl_standing_of : FnScope ["_law_parts"] ["_law_parts"] (defScope sl_standing_of) := ⟨rfl, rfl, rfl, by decide +kernel, rfl, by decide +kernel, by decide +kernel⟩
theorem ok_l_standing_of (T : Tx w K mg) : Cal P w K mg base "_law_standing_of" 3 ["_law_parts"] spStOf := by
  obtain ⟨fd, F⟩ : ∃ fd, Fun K "_law_standing_of" "_law_standing_of" sl_standing_of 1047 fd := T.fn 111 _ rfl
  refine T.cal F 170 rfl (fun _ _ _ _ _ _ us hl => match us, hl with | [_], _ => rfl) ?_
  refine F.ok scl_standing_of (fun vs H Q E h => ?_) (fun cdv A outer s H vs Q E hr h => ?_)
  · obtain ⟨v, p, rfl, _⟩ := h
    rfl
  obtain ⟨v, p, rfl, ⟨t, sh, bo, sa, as, lv, rfl, et, hp⟩, k⟩ := h
  refine ⟨_, (pss_one (ps_ret (pe_i (ok_m_Standing_init T) (hr.mono (by decide)) (pa_cons (pe_ix ix_tup (pv 0) pe_int (fun _ _ => rfl)) (pa_cons (pe_ix ix_tup (pv 0) pe_int (fun _ _ => rfl)) (pa_cons (pe_ix ix_tup (pv 0) pe_int (fun _ _ => rfl)) (pa_cons (pe_ix ix_tup (pv 0) pe_int (fun _ _ => rfl)) (pa_cons (pe_ix ix_tup (pv 0) pe_int (fun _ _ => rfl)) (pa_cons (pe_ix ix_tup (pv 0) pe_int (fun _ _ => rfl)) (pa_cons (pe_ix ix_tup (pv 0) pe_int (fun _ _ => rfl)) pa_nil)))))))))), ?_⟩
  refine ⟨_, rfl, t, _, 0, _, rfl, rfl, SqT.of et, rfl, _, rfl, t, _, 1, _, rfl, rfl, SqT.of et, rfl, _, rfl, t, _, 2, _, rfl, rfl, SqT.of et, rfl, _, rfl, t, _, 3, _, rfl, rfl, SqT.of et, rfl, _, rfl, t, _, 4, _, rfl, rfl, SqT.of et, rfl, _, rfl, t, _, 5, _, rfl, rfl, SqT.of et, rfl, _, rfl, t, _, 6, _, rfl, rfl, SqT.of et, rfl, fun x dx nx ndx nexx => ?_⟩
  refine ⟨x, dx, sh, bo, sa, as, lv, p, rfl, upd_same, rfl, ?_⟩
  have kM := madeI (o1 := .own x) (o2 := .ins cStanding dx []) (o3 := .ins cStanding dx (stF p sh bo sa as lv)) nx ndx trivial
  exact k _ _ kM ⟨dx, sh, bo, sa, as, lv, upd_same, hp.kp kM⟩
theorem scl_same : FnScope ["_law_actual", "_law_due_here", "_law_one", "_law_other"] ["_law_actual", "_law_due_here"] (defScope sl_same) := ⟨rfl, rfl, rfl, by decide +kernel, rfl, by decide +kernel, by decide +kernel⟩
theorem ok_l_same1 {n : Nat} (B : Cal P w K mg base "_law_same" (2 + n) ["_law_actual", "_law_due_here"] (spSame n)) (T : Tx w K mg) : Cal P w K mg base "_law_same" (2+n+1) ["_law_actual", "_law_due_here"] (spSame (n+1)) := by
  obtain ⟨fd, F⟩ : ∃ fd, Fun K "_law_same" "_law_same" sl_same 757 fd := T.fn 67 _ rfl
  refine T.cal F 126 rfl (fun _ _ _ _ _ _ us hl => match us, hl with | [_, _], _ => rfl) ?_
  refine F.ok scl_same (fun vs H Q E h => ?_) (fun cdv A outer s H vs Q E hr h => ?_)
  · obtain ⟨v, u, rfl, _⟩ := h
    rfl
  obtain ⟨v, u, rfl, hs, k⟩ := h
  refine ⟨_, (pss_cons (ps_if (pt_cmpR op_isN (pv 1) pe_non (nomark _)) (pss_one (ps_ret (pe_cmpR op_isN (pv 0) pe_non (nomark _)))) pss_nil)
    (pss_cons (ps_if (pt_cmpR op_isBl2 (pv 1) pe_bl (nomark _)) (pss_one (ps_ret (pe_cmpR op_isBl2 (pv 0) pe_bl (nomark _)))) pss_nil)
    (pss_cons (ps_if (pt_cmpR op_isBl2 (pv 1) pe_bl (nomark _)) (pss_one (ps_ret (pe_cmpR op_isBl2 (pv 0) pe_bl (nomark _)))) pss_nil)
    (pss_cons (ps_if (pt_val (pe_callB call_isi rfl (fr_isinstance T) (by decide +kernel) (pa_cons (pv 1) (pa_cons (pe_bltn (v := .ty "int") rfl (fr_int T) (by decide +kernel) rfl) pa_nil)))) (pss_one (ps_ret (pe_and (pe_k (ok_l_is_integer T) (hr.mono (by omega)) (pa_cons (pv 0) pa_nil)) (pe_one (pe_cmpR op_eq (pv 0) (pv 1) (nomark _)))))) pss_nil)
    (pss_cons (ps_if (pt_val (pe_callB call_isi rfl (fr_isinstance T) (by decide +kernel) (pa_cons (pv 1) (pa_cons (pe_bltn (v := .ty "str") rfl (fr_str T) (by decide +kernel) rfl) pa_nil)))) (pss_one (ps_ret (pe_and (pe_callB call_isi rfl (fr_isinstance T) (by decide +kernel) (pa_cons (pv 0) (pa_cons (pe_bltn (v := .ty "str") rfl (fr_str T) (by decide +kernel) rfl) pa_nil))) (pe_one (pe_cmpR op_eq (pv 0) (pv 1) (nomark _)))))) pss_nil)
    (pss_cons (ps_if (PW.pt (pw_or (pt_cmpR op_ne (pe_callB call_isi rfl (fr_isinstance T) (by decide +kernel) (pa_cons (pv 1) (pa_cons (pe_bltn (v := .ty "tuple") rfl (fr_tuple T) (by decide +kernel) rfl) pa_nil))) (pe_callB call_isi rfl (fr_isinstance T) (by decide +kernel) (pa_cons (pv 0) (pa_cons (pe_bltn (v := .ty "tuple") rfl (fr_tuple T) (by decide +kernel) rfl) pa_nil))) (nomark _)) (pw_or1 (pt_cmpR op_ne (pe_callB call_isi rfl (fr_isinstance T) (by decide +kernel) (pa_cons (pv 1) (pa_cons (pe_bltn (v := .ty "list") rfl (fr_list T) (by decide +kernel) rfl) pa_nil))) (pe_callB call_isi rfl (fr_isinstance T) (by decide +kernel) (pa_cons (pv 0) (pa_cons (pe_bltn (v := .ty "list") rfl (fr_list T) (by decide +kernel) rfl) pa_nil))) (nomark _))))) (pss_one (ps_ret pe_bl)) pss_nil)
    (pss_cons (ps_if (pt_cmpR op_ne (pe_callB call_len_seq rfl (fr_len T) (by decide +kernel) (pa_cons (pv 0) pa_nil)) (pe_callB call_len_seq rfl (fr_len T) (by decide +kernel) (pa_cons (pv 1) pa_nil)) (nomark _)) (pss_one (ps_ret pe_bl)) pss_nil)
    (pss_cons (ps_for PassesOwn.never rfl (RZ.pi_zipA rfl (fr_zip T) (pa_cons (pv 0) (pa_cons (pv 1) pa_nil))) (pg_tup rfl (pgs_cons (pg_name (i := 2) scl_same.nd rfl (Or.inl rfl)) (pgs_cons (pg_name (i := 3) scl_same.nd rfl (Or.inl rfl)) pgs_nil)))
      (pss_one (ps_if (pt_not (pt_val (pe_k B (hr.mono (by omega)) (pa_cons (pv 2) (pa_cons (pv 3) pa_nil))))) (pss_one (ps_ret pe_bl)) pss_nil)))
    (pss_one (ps_ret pe_bl)))))))))), ?_⟩
  rcases hs with ⟨i, rfl, rfl⟩ | ⟨a, b, xs, ys, rfl, rfl, ea, eb, hl, hxy⟩
  · refine ⟨_, rfl, rfl, _, rfl, hit (fun c => nomatch of_decide_eq_true c) (fun _ => ?_)⟩
    refine ⟨_, rfl, true, rfl, (fun c z => by cases z), _, rfl, iteF ?_⟩
    refine ⟨_, rfl, false, rfl, (fun c z => by cases z), _, rfl, iteF ?_⟩
    refine ⟨_, rfl, .int i, .ty "int", .type "int", .type "int", true, rfl, .ty _, .base (.int i), kit_ty (by decide +kernel), _, rfl, iteT ?_⟩
    refine ⟨_, rfl, i, rfl, _, rfl, iteT ⟨_, rfl, _, rfl, rfl, ?_⟩⟩
    rw [decide_eq_true rfl]
    exact k _ Kp.rfl
  · have tx : ∀ {H' : Hp} {c : Addr} {zs : List V}, H' c = some (.tup zs) → TyX K H' (.ref c) (.type "tuple") := fun e => tyTup (SqT.of e)
    have lxy := hxy.len
    refine ⟨_, rfl, rfl, _, rfl, hit (fun c => nomatch of_decide_eq_true c) (fun _ => ?_)⟩
    refine ⟨_, rfl, true, rfl, (fun c z => by cases z), _, rfl, iteF ?_⟩
    refine ⟨_, rfl, false, rfl, (fun c z => by cases z), _, rfl, iteF ?_⟩
    refine ⟨_, rfl, .ref b, .ty "int", .type "tuple", .type "int", false, rfl, .ty _, tx eb, kit_ty (by decide +kernel), _, rfl, iteF ?_⟩
    refine ⟨_, rfl, .ref b, .ty "str", .type "tuple", .type "str", false, rfl, .ty _, tx eb, kit_ty (by decide +kernel), _, rfl, iteF ?_⟩
    refine ⟨_, rfl, .ref b, .ty "tuple", .type "tuple", .type "tuple", true, rfl, .ty _, tx eb, kit_ty (by decide +kernel), _, rfl, .ref a, .ty "tuple", .type "tuple", .type "tuple", true, rfl, .ty _, tx ea, kit_ty (by decide +kernel), rfl, _, rfl, iteF ?_⟩
    refine ⟨_, rfl, .ref b, .ty "list", .type "tuple", .type "list", false, rfl, .ty _, tx eb, kit_ty (by decide +kernel), _, rfl, .ref a, .ty "list", .type "tuple", .type "list", false, rfl, .ty _, tx ea, kit_ty (by decide +kernel), rfl, _, rfl, iteF ?_⟩
    refine ⟨_, rfl, a, xs, rfl, .inr (SqT.of ea), _, rfl, b, ys, rfl, .inr (SqT.of eb), rfl, _, rfl, ?_⟩
    rw [lxy, decide_eq_true rfl]
    refine iteF ?_
    refine ⟨_, rfl, _, rfl, a, b, xs, ys, rfl, .inr ⟨SqT.of ea, SqT.of eb, ?_⟩⟩
    refine RZ.for_zipT lxy (fun i σ' H' => ∃ k1 k2, σ' = [some (.ref a), some (.ref b), k1, k2] ∧ Kp M0 H H') ⟨none, none, rfl, Kp.rfl⟩ (fun i σ' H' ⟨_, _, _, kp⟩ => ⟨SqT.of (kp.tup _ _ ea), SqT.of (kp.tup _ _ eb)⟩) ?_ ?_
    · rintro i x y p σ' H2 hx hy ⟨k1, k2, rfl, kp2⟩ np
      have hxy2 : SmV H n x y := by
        obtain ⟨y', ey, hh⟩ := hxy.getL hx
        rw [hy] at ey
        cases ey
        exact hh
      have kpp := Kp.new (M := M0) (o := .tup [x, y]) np
      have k3 := kp2.trans kpp
      refine ⟨p, _, rfl, SqT.of upd_same, rfl, _, _, rfl, _, _, rfl, rfl, ?_⟩
      exact ⟨_, rfl, _, rfl, x, y, rfl, hxy2.kp k3, fun H3 kp3 => ⟨_, rfl, iteF ⟨_, _, rfl, k3.trans kp3⟩⟩⟩
    · rintro σ' H2 ⟨k1, k2, rfl, kp2⟩
      exact k _ kp2
theorem ok_l_same (T : Tx w K mg) : ∀ n : Nat, Cal P w K mg base "_law_same" (2 + n) ["_law_actual", "_law_due_here"] (spSame n)
  | 0 => by
    obtain ⟨fd, F⟩ : ∃ fd, Fun K "_law_same" "_law_same" sl_same 757 fd := T.fn 67 _ rfl
    exact T.cal F 126 rfl (fun _ _ _ _ _ _ us hl => match us, hl with | [_, _], _ => rfl) (fnok_none fun vs H Q E h => by
      obtain ⟨_, _, _, z, _⟩ := h
      exact z)
  | n + 1 => (ok_l_same1 (ok_l_same T n) T).mono (by omega)
theorem scl_standing_same : FnScope ["_law_thing", "_law_parts", "_law_told"] ["_law_thing", "_law_parts"] (defScope sl_standing_same) := ⟨rfl, rfl, rfl, by decide +kernel, rfl, by decide +kernel, by decide +kernel⟩
theorem ok_l_standing_same (T : Tx w K mg) : Cal P w K mg base "_law_standing_same" 8 ["_law_thing", "_law_parts"] spStSame := by
  obtain ⟨fd, F⟩ : ∃ fd, Fun K "_law_standing_same" "_law_standing_same" sl_standing_same 1054 fd := T.fn 112 _ rfl
  refine T.cal F 171 rfl (fun _ _ _ _ _ _ us hl => match us, hl with | [_, _], _ => rfl) ?_
  refine F.ok scl_standing_same (fun vs H Q E h => ?_) (fun cdv A outer s H vs Q E hr h => ?_)
  · obtain ⟨st, v, p, nk, pl, r, rfl, _⟩ := h
    rfl
  obtain ⟨st, v, p, nk, pl, r, rfl, ⟨dx, sh, bo, sa, as, lv, est, hp⟩, hP, ok, hr20, k⟩ := h
  refine ⟨_, (pss_cons (ps_if (pt_not (pt_val (pe_callB call_isi rfl (fr_isinstance T) (by decide +kernel) (pa_cons (pv 0) (pa_cons (gc T 94 (.ref 458) rfl) pa_nil))))) (pss_one (ps_ret pe_bl)) pss_nil)
    (pss_cons (ps_set (i := 2) scl_standing_same.nd rfl (Or.inl rfl) (pe_tup (pa_cons (pe_fld (pv 0) rfl) (pa_cons (pe_fld (pv 0) rfl) (pa_cons (pe_fld (pv 0) rfl) (pa_cons (pe_fld (pv 0) rfl) (pa_cons (pe_fld (pv 0) rfl) (pa_cons (pe_fld (pv 0) rfl) (pa_cons (pe_fld (pv 0) rfl) pa_nil)))))))))
    (pss_one (ps_ret (pe_k (ok_l_same T 5) (hr.mono (by decide)) (pa_cons (pv 2) (pa_cons (pv 1) pa_nil))))))), ?_⟩
  refine ⟨_, rfl, .ref st, .ref cStanding, .ref cStanding, .ref cStanding, true, rfl, .own _, T.tyO mem_cStanding est, kit_self _, _, rfl, iteF ?_⟩
  refine ⟨_, rfl, st, cStanding, _, _, _, rfl, est, T.cl _ mem_cStanding, T.no (cStanding, "tick") (by simp [noL]), rfl, _, rfl, st, cStanding, _, _, _, rfl, est, T.cl _ mem_cStanding, T.no (cStanding, "seed") (by simp [noL]), rfl, _, rfl, st, cStanding, _, _, _, rfl, est, T.cl _ mem_cStanding, T.no (cStanding, "shared") (by simp [noL]), rfl, _, rfl, st, cStanding, _, _, _, rfl, est, T.cl _ mem_cStanding, T.no (cStanding, "bodies") (by simp [noL]), rfl, _, rfl, st, cStanding, _, _, _, rfl, est, T.cl _ mem_cStanding, T.no (cStanding, "said") (by simp [noL]), rfl, _, rfl, st, cStanding, _, _, _, rfl, est, T.cl _ mem_cStanding, T.no (cStanding, "asked") (by simp [noL]), rfl, _, rfl, st, cStanding, _, _, _, rfl, est, T.cl _ mem_cStanding, T.no (cStanding, "leaving") (by simp [noL]), rfl, (by show 7 ≤ sizeLine; decide), fun t nt => ?_⟩
  have k1 := Kp.new (M := M0) (o := .tup [.int p.tick, .int p.seed, .ref sh, .ref bo, .ref sa, .ref as, .ref lv]) nt
  exact ⟨_, rfl, _, rfl, .ref t, v, rfl, smP ok hr20 ⟨t, sh, bo, sa, as, lv, rfl, upd_same, hp.kp k1⟩ (hP.kp k1), fun H' kp => k _ (k1.trans kp)⟩
end
end G
set_option Elab.async false
set_option linter.all false
set_option maxRecDepth 100000
set_option maxHeartbeats 4000000
namespace G
open PySem PySem.Spec PyProof.Rows L2
theorem Hand.nl {H : Hp} {h sc a : Addr} {o : HO} (x : Hand H h sc) (e : H a = some o) (n : ∀ xs, o ≠ .lst xs) : a ≠ h := fun z => by
  obtain ⟨xs, q⟩ := x.ls
  rw [z, q] at e
  exact n xs (Option.some.inj e).symm
theorem PoAt.kpH {H H' : Hp} {h sc : Addr} (x : Hand H h sc) (k : Kp (Mh h) H H') {o : Option Hs} {v : V} (q : PoAt H o v) : PoAt H' o v := by
  cases o with
  | none => exact q
  | some f =>
    obtain ⟨a, e, h1⟩ := q
    refine ⟨a, e, h1.kp k ?_ x.noD⟩
    obtain ⟨dx, d, mc, h2, _⟩ := h1
    exact x.nl h2 fun xs z => by cases z
theorem KiAt.kpH {H H' : Hp} {h sc : Addr} (x : Hand H h sc) (k : Kp (Mh h) H H') {v : V} {kd : Kd} (q : KiAt H v kd) : KiAt H' v kd := by
  obtain ⟨a, dx, u, h1, h2, h3⟩ := q
  exact ⟨a, dx, u, h1, k.keep _ _ h2 (x.nl h2 fun xs z => by cases z), h3.kpH x k⟩
theorem GaAt.kpH {H H' : Hp} {h sc : Addr} (x : Hand H h sc) (k : Kp (Mh h) H H') {a : Addr} {pl : Int} {rows : List (List Nat)} {wd : Nat} {ks : List Kd} (q : GaAt H a pl rows wd ks) : GaAt H' a pl rows wd ks := by
  obtain ⟨dx, g, kt, bt, vs, h1, h2, h3, h4⟩ := q
  refine ⟨dx, g, kt, bt, vs, k.keep _ _ h1 (x.nl h1 fun xs z => by cases z), h2.kp k ?_, k.tup _ _ h3, h4.mono fun _ _ r => r.kpH x k⟩
  obtain ⟨_, _, e, _⟩ := h2
  exact x.nl e fun xs z => by cases z
theorem KsAt.kpH {H H' : Hp} {h sc : Addr} (x : Hand H h sc) (k : Kp (Mh h) H H') {a : Addr} {ks : List Kd} (q : KsAt H a ks) : KsAt H' a ks := q.kp k x.noD (q.ne x)
def spLaw (K : PySem.W.Frag) : Sp := fun vs H Q _ => ∃ (a : Addr) (ns : List Int), vs = [.ref a] ∧ SqL K H a (ns.map V.int) ∧ ∀ H', Q (.bl true) H'
section
variable {P : Program} {w : World} {K : PySem.W.Frag} {mg : Str → Option Value} {base : Heap}
theorem scl_law : FnScope ["_law_script", "_law_hand_here", "_law_rows_here", "_law_kinds", "_law_players", "_law_game", "_law_parts", "_law_k", "_law_event_here", "_law_inputs_here", "_law_due_here", "_law_standing", "_law_times", "_law_told"] ["_law_script"] (defScope sl_law) := ⟨rfl, rfl, rfl, by decide +kernel, rfl, by decide +kernel, by decide +kernel⟩
theorem fn_law (T : Tx w K mg) {fd : FuncData} (F : Fun K "law" "law" sl_law 1076 fd) : FnOk P w K mg base CX0 60 1076 fd ["_law_script"] (spLaw K) := by
  refine F.ok scl_law (fun vs H Q E h => ?_) (fun cdv A outer s H vs Q E hr h => ?_)
  · obtain ⟨a, ns, rfl, _⟩ := h
    rfl
  obtain ⟨a, ns, rfl, hS, k⟩ := h
  refine ⟨_, (pss_cons (ps_set (i := 1) scl_law.nd rfl (Or.inl rfl) (pe_k (ok_l_hand T) (hr.mono (by decide)) (pa_cons (pv 0) pa_nil)))
    (pss_cons (ps_set (i := 2) scl_law.nd rfl (Or.inl rfl) (pe_k (ok_l_ground T) (hr.mono (by decide)) (pa_cons (pv 1) pa_nil)))
    (pss_cons (ps_set (i := 3) scl_law.nd rfl (Or.inl rfl) (pe_k (ok_l_scripted T) (hr.mono (by decide)) (pa_cons (pv 1) (pa_cons (pe_k (ok_l_plain_kinds T) (hr.mono (by decide)) (pa_cons (pv 1) pa_nil)) pa_nil))))
    (pss_cons (ps_set (i := 4) scl_law.nd rfl (Or.inl rfl) (pe_op op_add pe_int (pe_k (ok_l_take T) (hr.mono (by decide)) (pa_cons (pv 1) (pa_cons pe_int pa_nil)))))
    (pss_cons (ps_set (i := 5) scl_law.nd rfl (Or.inl rfl) (pe_k (ok_l_game_of T) (hr.mono (by decide)) (pa_cons (pv 4) (pa_cons (pv 2) (pa_cons (pv 3) (pa_cons (pe_lst pa_nil) pa_nil))))))
    (pss_cons (ps_set (i := 6) scl_law.nd rfl (Or.inl rfl) (pe_k (ok_l_standing_parts T) (hr.mono (by decide)) (pa_cons (pv 1) (pa_cons (pv 2) (pa_cons (pv 3) (pa_cons (pv 4) (pa_cons (pe_k (ok_l_pick T) (hr.mono (by decide)) (pa_cons (pv 1) (pa_cons (pe_lst (pa_cons pe_int (pa_cons pe_int (pa_cons pe_int pa_nil)))) pa_nil))) pa_nil)))))))
    (pss_cons (ps_if (pt_cmpR op_eq (pe_callB call_len_seq rfl (fr_len T) (by decide +kernel) (pa_cons (pe_ix ix_tup (pv 6) pe_int (fun _ _ => rfl)) pa_nil)) pe_int (nomark _)) (pss_one (ps_ret pe_bl)) pss_nil)
    (pss_cons (ps_for PassesOwn.never rfl (pi_range1 rfl (fr_range T) (pa_cons (pe_op op_add pe_int (pe_k (ok_l_take T) (hr.mono (by decide)) (pa_cons (pv 1) (pa_cons pe_int pa_nil)))) pa_nil)) (pg_name (i := 7) scl_law.nd rfl (Or.inl rfl))
      (pss_cons (ps_set (i := 8) scl_law.nd rfl (Or.inl rfl) (pe_k (ok_l_event T) (hr.mono (by decide)) (pa_cons (pv 1) (pa_cons (pv 6) pa_nil))))
    (pss_cons (ps_set (i := 9) scl_law.nd rfl (Or.inl rfl) (pe_k (ok_l_inputs T) (hr.mono (by decide)) (pa_cons (pv 1) (pa_cons (pv 4) pa_nil))))
    (pss_cons (ps_set (i := 10) scl_law.nd rfl (Or.inl rfl) (pe_k (ok_l_due T) (hr.mono (by decide)) (pa_cons (pv 6) (pa_cons (pv 2) (pa_cons (pv 3) (pa_cons (pv 8) (pa_cons (pv 9) pa_nil)))))))
    (pss_cons (ps_set (i := 11) scl_law.nd rfl (Or.inl rfl) (pe_k (ok_l_standing_of T) (hr.mono (by decide)) (pa_cons (pv 6) pa_nil)))
    (pss_cons (ps_for PassesOwn.never rfl (pi_range1 rfl (fr_range T) (pa_cons pe_int pa_nil)) (pg_name (i := 12) scl_law.nd rfl (Or.inl rfl))
      (pss_cons (ps_set (i := 13) scl_law.nd rfl (Or.inl rfl) (pe_k (ok_p_ran T) (hr.mono (by decide)) (pa_cons (pv 5) (pa_cons (pv 11) (pa_cons (pe_ix ix_tup (pv 8) pe_int (fun _ _ => rfl)) (pa_cons (pe_ix ix_tup (pv 8) pe_int (fun _ _ => rfl)) (pa_cons (pe_ix ix_tup (pv 8) pe_int (fun _ _ => rfl)) (pa_cons (pe_ix ix_tup (pv 8) pe_int (fun _ _ => rfl)) (pa_cons (pv 9) pa_nil)))))))))
    (pss_one (ps_if (PW.pt (pw_or (pt_not (pt_val (pe_k (ok_l_standing_same T) (hr.mono (by decide)) (pa_cons (pv 13) (pa_cons (pv 10) pa_nil))))) (pw_or1 (pt_not (pt_val (pe_k (ok_l_standing_same T) (hr.mono (by decide)) (pa_cons (pv 11) (pa_cons (pv 6) pa_nil)))))))) (pss_one (ps_ret pe_bl)) pss_nil))))
    (pss_one (ps_set (i := 6) scl_law.nd rfl (Or.inl rfl) (pv 10)))))))))
    (pss_one (ps_ret pe_bl)))))))))), ?_⟩
  refine ⟨_, rfl, a, ns, rfl, hS, fun h sc H1 kp1 hH1 => ?_⟩
  refine ⟨_, rfl, h, sc, rfl, hH1, fun rv H2 kp2 hH2 hx => ?_⟩
  obtain ⟨rows, wd, hR2, ok⟩ := hx
  refine ⟨_, rfl, _, rfl, h, sc, rfl, hH2, fun kv H3 kp3 hH3 hx => ?_⟩
  obtain ⟨a0, ks0, rfl, hK0⟩ := hx
  refine ⟨h, sc, a0, ks0, rfl, hH3, hK0, fun kv H4 kp4 hH4 hx => ?_⟩
  obtain ⟨b, ks, rfl, hK4⟩ := hx
  have hR4 := (hR2.kp kp3).kp kp4
  refine ⟨_, rfl, h, sc, 4, rfl, hH4, by decide, by decide, fun r H5 kp5 hH5 r0 r1 => ⟨_, _, rfl, rfl, ?_⟩⟩
  have hR5 := hR4.kp kp5
  have hK5 := hK4.kpH hH4 kp5
  have p1 : 1 ≤ 1 + r := by omega
  have p4 : 1 + r ≤ 4 := by omega
  refine ⟨_, rfl, _, rfl, _, rfl, (by show 0 ≤ sizeLine; decide), fun l nl => ?_⟩
  have kl := Kp.new (M := M0) (o := .lst []) nl
  refine ⟨rv, b, l, 1 + r, rows, wd, ks, rfl, hR5.kp kl, ok, hK5.kp kl noD0 id, upd_same, p1, p4, fun g H6 kp6 hG6 => ?_⟩
  have k56 := kl.trans kp6
  have hH6 := hH5.keep k56 id id
  have hR6 := hR5.kp k56
  have hK6 := hK5.kp k56 noD0 id
  refine ⟨_, rfl, _, rfl, _, rfl, _, rfl, _, rfl, (by show 3 ≤ sizeLine; decide), fun l2 nl2 => ?_⟩
  have kl2 := Kp.new (M := M0) (o := .lst [.int 1, .int 3, .int 5]) nl2
  refine ⟨h, sc, l2, _, rfl, hH6.new nl2, SqL.of upd_same, (hH6.neH nl2).1, (by show 1 ≤ 3; decide), (by show 3 < 1073741824; decide), fun mv H7 kp7 hH7 mem => ?_⟩
  obtain ⟨m, rfl, m1, m5⟩ : ∃ m : Int, mv = .int m ∧ 1 ≤ m ∧ m ≤ 5 := by
    simp only [List.mem_cons, List.not_mem_nil, or_false] at mem
    rcases mem with q | q | q
    · exact ⟨_, q, by decide, by decide⟩
    · exact ⟨_, q, by decide, by decide⟩
    · exact ⟨_, q, by decide, by decide⟩
  have hHn := hH6.new (o := .lst [.int 1, .int 3, .int 5]) nl2
  have hR7 := (hR6.kp kl2).kp kp7
  have hK7 := (hK6.kp kl2 noD0 id).kpH hHn kp7
  have hG7 := (hG6.kp0 kl2).kpH hHn kp7
  refine ⟨h, sc, b, ks, rv, rows, wd, 1 + r, m, rfl, hH7, hR7, ok, hK7, p1, p4, m1, m5, fun pv H8 kp8 hH8 hx => ?_⟩
  obtain ⟨p, hP8, hok8⟩ := hx
  have hR8 := hR7.kp kp8
  have hK8 := hK7.kpH hH7 kp8
  have hG8 := hG7.kpH hH7 kp8
  have hP8' := hP8
  obtain ⟨t, sh, bo, sa, as, lv, rfl, et, hp⟩ := hP8'
  obtain ⟨bvs, eb, hB⟩ := hp.bo
  have hbl := hB.len
  refine ⟨_, rfl, t, _, 3, _, rfl, rfl, SqT.of et, rfl, bo, bvs, rfl, .inr (SqT.of eb), rfl, _, rfl, hit (fun z => k _) (fun z => ?_)⟩
  have n0 : 1 ≤ p.bs.length := by
    have z' : ¬ (bvs.length : Int) = 0 := fun y => by
      rw [y] at z
      exact absurd z (by decide)
    omega
  refine ⟨_, rfl, h, sc, 5, rfl, hH8, by decide, by decide, fun r2 H9 kp9 hH9 s0 s1 => ⟨_, _, rfl, rfl, 1 + r2, rfl, by omega, by omega, ?_⟩⟩
  have hP9 := hP8.kp kp9
  have hR9 := hR8.kp kp9
  have hK9 := hK8.kpH hH8 kp9
  have hG9 := hG8.kpH hH8 kp9
  obtain ⟨N, eN, hN⟩ : ∃ N : Nat, (1 + r2).toNat = N ∧ N ≤ 5 := ⟨_, rfl, by omega⟩
  rw [eN]
  have h8 := hK9
  obtain ⟨_, _, _, _, nk8⟩ := h8
  refine for_range (lo := 0) (n := N) (fun i σ' H' => ∃ (pv : V) (q : Pts) (k7 k8 k9 k10 k11 k12 k13 : Option V), σ' = [some (.ref a), some (.ref h), some rv, some (.ref b), some (.int (1 + r)), some (.ref g), some pv, k7, k8, k9, k10, k11, k12, k13] ∧
    Hand H' h sc ∧ PtsAt H' pv q ∧ PtsOk ks.length (1 + r) i q ∧ 1 ≤ q.bs.length ∧ RowsAt H' rv rows ∧ KsAt H' b ks ∧ GaAt H' g (1 + r) rows wd ks) ?_ ?_ ?_
  · exact ⟨_, p, _, _, _, _, _, _, _, rfl, hH9, hP9, hok8, n0, hR9, hK9, hG9⟩
  · rintro i σ' H0 hi ⟨pv, q, k7, k8, k9, k10, k11, k12, k13, rfl, hH, hP, hok, hn, hR, hK, hG⟩
    refine ⟨_, rfl, _, rfl, h, sc, pv, q, rfl, hH, hP, hn, hok.bs.len, fun ev Ha kpa hHa hx => ?_⟩
    obtain ⟨num, e, other, side, hE, hmem⟩ := hx
    refine ⟨_, rfl, _, rfl, h, sc, 1 + r, rfl, hHa, p1, p4, fun iv Hb kpb hHb hx => ?_⟩
    obtain ⟨it, inp, rfl, eit, il, ib⟩ := hx
    have kab := kpa.trans kpb
    have hPb := hP.kp kab
    have hRb := hR.kp kab
    have hKb := hK.kpH hH kab
    have hGb := hG.kpH hH kab
    have hEb := hE.kp kpb
    have hset : SetOk rows wd ks (1 + r) inp := ⟨ok, nk8, p4, il, ib⟩
    have hi15 : i ≤ 15 := by omega
    refine ⟨_, rfl, _, rfl, _, rfl, _, rfl, _, rfl, pv, rv, ev, b, it, q, rows, wd, ks, 1 + r, num, e, other, side, inp, i, rfl, hPb, hRb, hKb, hEb, eit, hok, hi15, hset, hmem, fun du Hc q' kpc hdue hPd => ?_⟩
    refine ⟨_, rfl, pv, q, rfl, hPb.kp kpc, fun st Hd kpd hSt => ?_⟩
    have kbd := kpc.trans kpd
    obtain ⟨hok', hn'⟩ := hdue.ok hok hi15 hset
    refine ⟨2, rfl, by decide, by decide, ?_⟩
    obtain ⟨te, rfl, ete⟩ := hEb
    have hHd := hHb.keep kbd id id
    have hPd2 := hPd.kp kpd
    refine for_range (lo := 0) (n := 2) (fun j σ' H' => ∃ (k12 k13 : Option V), σ' = [some (.ref a), some (.ref h), some rv, some (.ref b), some (.int (1 + r)), some (.ref g), some pv, some (.int (0 + (i : Int))), some (.ref te), some (.ref it), some du, some (.ref st), k12, k13] ∧ Kp M0 Hd H') ?_ ?_ ?_
    · exact ⟨_, _, rfl, Kp.rfl⟩
    · rintro j σ' Hj hj ⟨k12, k13, rfl, kpj⟩
      have kbj := kbd.trans kpj
      have etj := kbj.tup _ _ ete
      refine ⟨_, rfl, _, rfl, _, rfl, te, _, 0, _, rfl, rfl, SqT.of etj, rfl, _, rfl, te, _, 1, _, rfl, rfl, SqT.of etj, rfl, _, rfl, te, _, 2, _, rfl, rfl, SqT.of etj, rfl, _, rfl, te, _, 3, _, rfl, rfl, SqT.of etj, rfl, _, rfl, g, st, it, q, rows, wd, ks, 1 + r, num, e, other, side, inp, i, rfl, hGb.kp0 kbj, hSt.kp0 kpj, kbj.tup _ _ eit, hok, hi15, hset, hmem, fun u He q2 kpe hd2 hs2 => ?_⟩
      have eq2 : q2 = q' := hd2.det hok.bs hdue
      subst eq2
      have kje := kpj.trans kpe
      refine ⟨_, rfl, _, rfl, u, du, q2, ks.length, 1 + r, i + 1, rfl, hs2, hPd2.kp kje, hok', by omega, fun Hf kpf => ⟨_, rfl, iteF ?_⟩⟩
      have kjf := kje.trans kpf
      exact ⟨_, rfl, _, rfl, st, pv, q, ks.length, 1 + r, i, rfl, hSt.kp0 kjf, hPb.kp (kbd.trans kjf), hok, by omega, fun Hg kpg => ⟨_, rfl, iteF ⟨_, _, rfl, kjf.trans kpg⟩⟩⟩
    · rintro σ' Hj ⟨k12, k13, rfl, kpj⟩
      have kbj := kbd.trans kpj
      exact ⟨_, rfl, du, q', _, _, _, _, _, _, _, rfl, hHd.keep kpj id id, hPd2.kp kpj, hok', hn', hRb.kp kbj, hKb.kp kbj noD0 id, hGb.kp0 kbj⟩
  · rintro σ' H0 ⟨pv, q, k7, k8, k9, k10, k11, k12, k13, rfl, _⟩
    exact k _
theorem ok_law (T : Tx w K mg) : ∃ fd, (∀ (s : Shared) (u : Value), BindsTo s fd ⟨[u], []⟩ [("_law_script", u)]) ∧ ∀ base, FnOk P w K mg base CX0 200 1076 fd ["_law_script"] (spLaw K) := by
  obtain ⟨fd, F⟩ : ∃ fd, Fun K "law" "law" sl_law 1076 fd := T.fn 116 _ rfl
  have hb : ∀ (s : Shared) (u : Value), BindsTo s fd ⟨[u], []⟩ [("_law_script", u)] := by
    obtain ⟨oc, od, kV, doc, pm, an, cdv, ct, osl, rfl, lk, hcd⟩ := F.ex
    exact fun s u => .of_eq rfl
  exact ⟨fd, hb, fun base => (fn_law T F).mono (by decide)⟩
end
end G
set_option Elab.async false
set_option maxRecDepth 100000
set_option maxHeartbeats 0
open PySem PySem.W PySem.Calls PyProof.Rows
theorem PySem.Challenge.cw_guessedworlds_k10_whole_handlers_run_tre_holds : PySem.Challenge.rw_guessedworlds_k10_whole_handlers_run_tre.Holds := by
  w_on; o_law
  refine HandSHeadRun.head_any (r := OpenLaw.row PySem.Challenge.rw_guessedworlds_k10_whole_handlers_run_tre) (q := view (OpenLaw.row PySem.Challenge.rw_guessedworlds_k10_whole_handlers_run_tre).prog [176]) (H := G.hookY) (ob := G.ob) (M := 9000) (loose := G.names) (d := HandSHeadRun.topDef (OpenLaw.row PySem.Challenge.rw_guessedworlds_k10_whole_handlers_run_tre).prog 176) (kwd := []) G.ob_eq
    (by kernel_rfl) (fun s => by kernel_rfl) G.run (by kernel_rfl) (by kernel_rfl) (by kernel_rfl) (by rfl) (by first | assumption | decide +kernel) (by decide +kernel) ⟨rfl, rfl, rfl, rfl, rfl, by decide +kernel⟩ ?hw ?hc
  case hw => w_witness2
  case hc =>
    refine L2.walk_ofE (l := PySem.Challenge.rw_guessedworlds_k10_whole_handlers_run_tre) (n := 63) (k := 200) (x := "_law_script") (CX := L2.CX0) rfl (by decide) (by kernel_rfl) ⟨rfl, by decide, by decide⟩ ?F (fun _ _ _ _ z => z)
    intro w mg fa h Y Gm hmg0
    obtain ⟨h0, S, kp⟩ := Y
    have hmg : mg ("law" : PySem.Str) = some (.ref fa) := by
      have e : (HandSHeadRun.topDef (OpenLaw.row PySem.Challenge.rw_guessedworlds_k10_whole_handlers_run_tre).prog 176).name = ("law" : PySem.Str) := by kernel_rfl
      rw [← e]
      exact hmg0
    have KX0 : (G.KY h0.get?).In h0 := He.frG_in
    have KX : (G.KY h0.get?).In h := PySem.W.Frag.In.keeps KX0 kp
    have T := G.tx_of S KX Gm
    obtain ⟨u, e1, e2⟩ := T.gl 175 "law" (.ref 1076) rfl
    have ea : fa = 1076 := by
      rw [hmg] at e1
      cases e1
      cases e2
      rfl
    subst ea
    obtain ⟨fd, hb, hF⟩ := G.ok_law (P := PySem.Challenge.rw_guessedworlds_k10_whole_handlers_run_tre.prog) T
    exact ⟨G.KY h0.get?, fd, G.spLaw (G.KY h0.get?), KX, hb, fun H a ns _ _ hS => ⟨a, ns, rfl, hS, fun _ => rfl⟩, fun base _ _ => hF base⟩
